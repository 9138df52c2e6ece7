import Derived.Test.YtabmooekodficaaF2109
set_option linter.all false
section
namespace Aq
open Go
section
variable {R:Reg} {E:Env}
variable {ρ:ak} {top:Nat->Nat} {b:Nat} {st:MS R.T} {fr:Fr} {σ:Sig}
theorem closeV_fnc {n:Nat} {f:Nat} (a b:List V):closeV (n+2) σ (.fn (.func f) a b)=(a.mapM (closeV (n+1) σ)).bind fun a=>(b.mapM (closeV (n+1) σ)).map fun b=>.fn (.func f) a b:=by
 by_cases hp:pclean (.fn (.func f) a b)=true
 ·rw[closeV_clean hp]
  have:∀cs:List V,pcleanL cs=true->cs.mapM (closeV (n+1) σ)=some cs:=by
   intro cs
   induction cs with
   |nil=>intro _;rfl
   |cons a l ih=>
    intro h
    simp only[pcleanL,iP] at h
    rw[QH,closeV_clean h.1,ih h.2];rfl
  simp only[pclean,iP] at hp
  rw[this a hp.1,this b hp.2];rfl
 ·conv=>lhs;unfold closeV
  simp only[hp,if_false,Qv]
theorem DC {n:Nat} {off:Nat} (cs:List V):closeV (n+2) σ (.cref cs off)=(cs.mapM (closeV (n+1) σ)).map (.cref · off):=by
 by_cases hp:pclean (.cref cs off)=true
 ·rw[closeV_clean hp]
  have:∀cs:List V,pcleanL cs=true->cs.mapM (closeV (n+1) σ)=some cs:=by
   intro cs
   induction cs with
   |nil=>intro _;rfl
   |cons a l ih=>
    intro h
    simp only[pcleanL,iP] at h
    rw[QH,closeV_clean h.1,ih h.2];rfl
  rw[this cs (by simpa [pclean] using hp)];rfl
 ·conv=>lhs;unfold closeV
  simp only[hp,if_false,Qv]
variable (hR:RegOK R)
include hR
theorem xP {k e:Ty} (m:List (Den R.T k×Den R.T e)):pclean (.mapc (m.map fun p=>encD R k p.1) (m.map fun p=>encD R e p.2))=true:=by
 simp only[pclean,iP]
 have h1:∀m:List (Den R.T k×Den R.T e),pcleanL (m.map fun p=>encD R k p.1)=true/\pcleanL (m.map fun p=>encD R e p.2)=true:=by
  intro m
  induction m with
  |nil=>exact⟨rfl,rfl⟩
  |cons p m ih=>exact⟨by simp[pcleanL,fK hR,ih.1],by simp[pcleanL,fK hR,ih.2]⟩
 exact h1 m
theorem DF:∀(t:Ty) (x:Den R.T t) (v:V),dO t=true->Rl R ρ top (tv1 R .any t x) v->∀n σ,closeV (n+2) σ v=some (encD R t x)
 |.int k,x,v,_,h,n,σ=>by rw[Rl.inv_int (R:=R) h];exact wJ (n+1) _ _
 |.bool,x,v,_,h,n,σ=>by rw[Rl.fA (R:=R) h];exact wK (n+1) _
 |.str,x,v,_,h,n,σ=>by rw[Rl.dH (R:=R) h];exact wL (n+1) _
 |.slice t,x,v,_,h,n,σ=>by
  obtain⟨c,rfl,_⟩:=Rl.bW (R:=R) h
  exact kr _ _ (fK hR _)
 |.st n,_,_,h,_,_,_=>by simp[dO] at h
theorem nG:∀(l:List Ty) (p:PayT R.T l) (vs:List V),l.all dO=true->RlL R ρ top (tvs R .any l p) vs->∀n σ,vs.mapM (closeV (n+2) σ)=some (encs R l p)
 | [],_,vs,_,h,n,σ=>by rw[RlL.inv_nil h];rfl
 | [t],x,vs,hl,h,n,σ=>by
   obtain⟨v,l,rfl,h1,h2⟩:=RlL.inv_cons h
   rw[RlL.inv_nil h2,QH,DF hR t x v (by simpa using hl) h1];rfl
 |t::u::l,p,vs,hl,h,n,σ=>by
  rw[List.all_cons,iP] at hl
  obtain⟨v,ws,rfl,h1,h2⟩:=RlL.inv_cons h
  rw[QH,DF hR t p.1 v hl.1 h1,nG (u::l) p.2 ws hl.2 h2];rfl
theorem Np (t:Ty) (x:Den R.T t) (vs:List V) (h:RlL R ρ top (tvD R .any t x).cells vs) (n:Nat) (σ:Sig):vs.mapM (closeV (n+2) σ)=some (encD R t x).cells:=by
 cases t with
 |st k=>
  have he:encD R (.st k) x= .agg (encs R (R.lf k) (R.of k x)):=hR.enc k x
  rw[he]
  exact nG hR _ _ vs (hR.leaf k) h n σ
 |int k=>exact nG hR [.int k] x vs rfl h n σ
 |bool=>exact nG hR [.bool] x vs rfl h n σ
 |str=>exact nG hR [.str] x vs rfl h n σ
 |slice t=>exact nG hR [.slice t] x vs rfl h n σ
theorem xQ {t:Ty} {ρ:ak} {top:Nat->Nat}:∀(l:List (Den R.T t)) (cs:List V),RlL R ρ top (l.flatMap fun x=>(tvD R .any t x).cells) cs->∀(n:Nat) (σ:Sig),cs.mapM (closeV (n+2) σ)=some ((l.map (encD R t)).flatMap V.cells)
 | [],cs,h,n,σ=>by rw[RlL.inv_nil h];rfl
 |x::l,cs,h,n,σ=>by
  rw[QV] at h
  obtain⟨a,b,rfl,h1,h2⟩:=h.split
  rw[List.mapM_append,xQ l b h2 n σ,QA,QV]
  have:a.mapM (closeV (n+2) σ)=some (encD R t x).cells:=Np hR t x a h1 n σ
  rw[this];rfl
omit hR in
theorem DI:∀(t:Ty) (x:Den R.T t) (v:V),dO t=true->Rl R ρ top (tv1 R .any t x) v->aP v=encD R t x
 |.int k,x,v,_,h=>by rw[Rl.inv_int (R:=R) h];rfl
 |.bool,x,v,_,h=>by rw[Rl.fA (R:=R) h];rfl
 |.str,x,v,_,h=>by rw[Rl.dH (R:=R) h];rfl
 |.slice t,x,v,_,h=>by
  obtain⟨c,rfl,_⟩:=Rl.bW (R:=R) h
  rfl
 |.st n,_,_,h,_=>by simp[dO] at h
omit hR in
theorem nH:∀(l:List Ty) (p:PayT R.T l) (vs:List V),l.all dO=true->RlL R ρ top (tvs R .any l p) vs->vs.map aP=encs R l p
 | [],_,vs,_,h=>by rw[RlL.inv_nil h];rfl
 | [t],x,vs,hl,h=>by
   obtain⟨v,l,rfl,h1,h2⟩:=RlL.inv_cons h
   rw[RlL.inv_nil h2,QA,DI t x v (by simpa using hl) h1];rfl
 |t::u::l,p,vs,hl,h=>by
  rw[List.all_cons,iP] at hl
  obtain⟨v,ws,rfl,h1,h2⟩:=RlL.inv_cons h
  rw[QA,DI t p.1 v hl.1 h1,nH (u::l) p.2 ws hl.2 h2];rfl
theorem Nq (t:Ty) (x:Den R.T t) (vs:List V) (h:RlL R ρ top (tvD R .any t x).cells vs):vs.map aP=(encD R t x).cells:=by
 cases t with
 |st k=>
  have he:encD R (.st k) x= .agg (encs R (R.lf k) (R.of k x)):=hR.enc k x
  rw[he]
  exact nH _ _ vs (hR.leaf k) h
 |int k=>exact nH [.int k] x vs rfl h
 |bool=>exact nH [.bool] x vs rfl h
 |str=>exact nH [.str] x vs rfl h
 |slice t=>exact nH [.slice t] x vs rfl h
theorem DJ {t:Ty} {ρ:ak} {top:Nat->Nat}:∀(l:List (Den R.T t)) (cs:List V),RlL R ρ top (l.flatMap fun x=>(tvD R .any t x).cells) cs->cs.map aP=(l.map (encD R t)).flatMap V.cells
 | [],cs,h=>by rw[RlL.inv_nil h];rfl
 |x::l,cs,h=>by
  rw[QV] at h
  obtain⟨a,b,rfl,h1,h2⟩:=h.split
  rw[Rh,DJ l b h2,QA,QV,Nq hR t x a h1]
theorem xR {t:Ty} (l:List (Den R.T t)):chunks (isSt t) (szD R t) l.length ((l.map (encD R t)).flatMap V.cells)=l.map (encD R t):=by
 have:=xE (isSt t) (szD R t) (l.map (encD R t)) (fun v hv=>by
  obtain⟨x,_,rfl⟩:=Rx.1 hv
  exact(nC hR t x).1)
 rw[Qy] at this
 rw[this,RQ]
 refine RN fun x _=>?_
 show (if isSt t then V.agg (encD R t x).cells else (encD R t x).cells.headD undefV)=encD R t x
 cases hs:isSt t
 ·cases t<;>first|rfl| (simp[isSt] at hs;done)
 ·obtain⟨c,hc⟩:=(nC hR t x).2.2.2.1 hs
  rw[hc];rfl
theorem xS {t:Ty} (l:List (Den R.T t)):(isSt t||szD R t==1&& oneCells ((l.map (encD R t)).flatMap V.cells))=true:=by
 cases hs:isSt t
 ·have h1:szD R t=1:=by cases t<;>first|rfl| (simp[isSt] at hs;done)
  rw[h1]
  have:oneCells ((l.map (encD R t)).flatMap V.cells)=true:=by
   have:=xH hR l
   unfold oneCells at this⊢
   rw[List.all_flatMap]
   exact this
  rw[this];rfl
 ·rfl
omit hR in
theorem DK:∀(a b:List V),pcleanL (a++b)=(pcleanL a&& pcleanL b)
 | [],b=>by simp[pcleanL]
 |x::a,b=>by simp only[List.cons_append,pcleanL];rw[DK a b,Bool.and_assoc]
omit hR in
theorem sW (k:IntKind):∀l:List Int,pcleanL (l.map (V.int k))=true
 | []=>by simp[pcleanL]
 |x::l=>by simp only[QA,pcleanL,wM,Bool.true_and];exact sW k l
omit hR in
theorem xU:∀ss:List Sg,pcleanL (sgV ss)=true
 | []=>by simp[sgV,pcleanL]
 |.i k x::ss=>by show pcleanL (V.int k x::sgV ss)=true;unfold pcleanL;rw[xU ss];simp[pclean]
 |.a k n v::ss=>by
  show pcleanL (v.l.map (V.int k)++sgV ss)=true
  rw[DK,sW,xU ss];rfl
omit hR in
theorem xV (ss:List Sg):pclean (.agg (sgV ss))=true:=by unfold pclean;exact xU ss
omit hR in
theorem DL:∀(a b:List V),bQ (a++b)=(bQ a&& bQ b)
 | [],b=>by simp[bQ]
 |x::a,b=>by simp only[List.cons_append,bQ];rw[DL a b,Bool.and_assoc]
omit hR in
theorem DN (k:IntKind):∀l:List Int,bQ (l.map (V.int k))=true
 | []=>by simp[bQ]
 |x::l=>by simp only[QA,bQ,flat,Bool.true_and];exact DN k l
omit hR in
theorem sZ:∀ss:List Sg,bQ (sgV ss)=true
 | []=>by simp[sgV,bQ]
 |.i k x::ss=>by show bQ (V.int k x::sgV ss)=true;unfold bQ;rw[sZ ss];simp[flat]
 |.a k n v::ss=>by
  show bQ (v.l.map (V.int k)++sgV ss)=true
  rw[DL,DN,sZ ss];rfl
omit hR in
theorem Nr (ss:List Sg):er (.agg (sgV ss))= .agg (sgV ss):=by
 have:∀ss:List Sg,(sgV ss).map aP=sgV ss:=by
  intro ss
  induction ss with
  |nil=>rfl
  |cons s ss ih=>
   cases s with
   |i k x=>show aP (.int k x)::(sgV ss).map aP=_;rw[ih];rfl
   |a k n v=>
    show (v.l.map (V.int k)++sgV ss).map aP=_
    rw[Rh,ih,RQ];rfl
 show V.agg ((sgV ss).map aP)=_
 rw[this]
omit hR in
theorem gG:∀(a b:List Sg),sgV (a++b)=sgV a++sgV b
 | [],b=>rfl
 |s::a,b=>by show s.vs++sgV (a++b)=s.vs++sgV a++sgV b;rw[gG a b,QS]
omit hR in
theorem Sg.len:∀s:Sg,s.vs.length=s.w
 |.i _ _=>rfl
 |.a _ n v=>by show (v.l.map _).length=n;rw[Qy,v.h]
omit hR in
theorem bD:∀ss:List Sg,(sgV ss).length=sgW ss
 | []=>rfl
 |s::ss=>by show (s.vs++sgV ss).length=s.w+sgW ss;rw[QI,s.len,bD ss]
omit hR in
theorem je:∀{ss:List Sg} {n:Nat} {a b:List Sg},splitG ss n=some (a,b)->ss=a++b/\sgW a=n
 |ss,0,a,b,h=>by
  have h':some (([]:List Sg),ss)=some (a,b):=by cases ss<;>exact h
  cases h';exact⟨rfl,rfl⟩
 | [],n+1,a,b,h=>by cases h
 |s::ss,n+1,a,b,h=>by
  unfold splitG at h
  obtain⟨h1,h⟩:=aH h
  split at h
  ·rename_i a' b' h2
   cases h
   obtain⟨e,hw⟩:=je h2
   have:=QJ h1
   refine⟨by rw[e];rfl,?_⟩
   show s.w+sgW a'=n+1
   omega
  ·cases h
omit hR in
theorem tq {ρ:ak} {top:Nat->Nat} {k:IntKind}:∀{cs:List (TV R.T)} {xs:List Int} {vs:List V},unIs k cs=some xs->RlL R ρ top cs vs->vs=xs.map (V.int k)
 | [],xs,vs,h,hr=>by cases h;exact hr.inv_nil
 |c::cs,xs,vs,h,hr=>by
  obtain⟨v,ws,rfl,h1,h2⟩:=hr.inv_cons
  cases c<;>first| (exact absurd (show none=some xs from h) (by simp))|skip
  rename_i k' x
  have h':(if k'=k then (match unIs k cs with
   |some xs=>some (x::xs)
   |none=>none) else none)=some xs:=h
  split at h'
  ·rename_i e;subst e
   split at h'
   ·rename_i ys hy
    cases h'
    rw[h1.inv_int,tq hy h2];rfl
   ·cases h'
  ·cases h'
omit hR in
theorem xW (k:IntKind):∀(l:List Int) (rest:List V),chunks false 1 l.length (l.map (V.int k)++rest)=l.map (V.int k)
 | [],rest=>rfl
 |x::l,rest=>by
  show V.int k x::chunks false 1 l.length (l.map (V.int k)++rest)=_
  rw[xW k l rest];rfl
omit hR in
theorem lQ {n:Nat} {lo hi:Option Int} (h:svB n lo hi=true):(loI lo).toNat<=(hiI n hi).toNat/\(hiI n hi).toNat<=n/\((loI lo).toNat< (hiI n hi).toNat\/(loI lo).toNat=0)/\0<=loI lo/\loI lo<=hiI n hi:=by
 cases lo<;>cases hi<;>simp only[svB,loI,hiI,decide_eq_true_eq] at h⊢ <;>omega
omit hR in
theorem Ns {α:Type} {n:Nat} {lo hi:Option Int} (h:svB n lo hi=true) {l:List α} (hl:l.length=n):subG l lo hi=(l.drop (loI lo).toNat).take ((hiI n hi).toNat-(loI lo).toNat):=by
 obtain⟨h1,h2,_⟩:=lQ h
 cases lo<;>cases hi<;>simp only[subG,loI,hiI] at*
 ·simp[hl];rw[Ri (by omega)]
 ·simp
 ·rw[Ri];rw[Q9];omega
 ·rw[List.take_drop];congr 1;congr 1;omega
theorem DR (hi:aj ρ b st fr σ) {o off n:Nat} {k:IntKind} {lo hi':Option Int} {l:List Int} (h:svL st o off k n lo hi'=some l) {s:Nat} (hs:ρ.ob o=some s) (hB:svB n lo hi'=true):
 ∃cs,σ.cellsAt (ρ.om.lc o) s=some cs/\off+n<=cs.length/\(cs.drop (off+(loI lo).toNat)).take ((hiI n hi').toNat-(loI lo).toNat)=l.map (V.int k)/\l.length=(hiI n hi').toNat-(loI lo).toNat:=by
 obtain⟨p1,p2,p3,_,_⟩:=lQ hB
 have fin:∀(cs:List V) (xs:List Int),xs.length=n->(cs.drop off).take n=xs.map (V.int k)->off+n<=cs.length->l=subG xs lo hi'->(cs.drop (off+(loI lo).toNat)).take ((hiI n hi').toNat-(loI lo).toNat)=l.map (V.int k)/\l.length=(hiI n hi').toNat-(loI lo).toNat:=by
  intro cs xs hx hc hle hl
  rw[Ns hB hx] at hl
  subst hl
  constructor
  ·rw[List.map_take,List.map_drop,<-hc,List.drop_take,List.take_take,List.drop_drop]
   congr 1
   omega
  ·rw[QE,Q9];omega
 unfold svL at h
 split at h
 ·rename_i ss hl
  obtain⟨s',h1,h2⟩:=hi.rd hl
  rw[hs] at h1;cases h1
  split at h
  ·rename_i pre k' n' v post hsp
   by_cases e:k'=k
   ·subst e
    rw[if_pos rfl] at h
    cases e2:Nat.beq n' n
    ·rw[e2] at h;cases h
    rw[e2] at h
    have e2:=aJ e2
    subst e2
    obtain rfl:subG v.l lo hi'=l:=QL h
    obtain⟨e3,hw⟩:=je hsp
    refine⟨_,h2,?_,?_⟩
    ·rw[e3,bD]
     have:∀a b:List Sg,sgW (a++b)=sgW a+sgW b:=fun a b=>by rw[<-bD,gG,QI,bD,bD]
     rw[this,hw]
     show off+n'<=off+(n'+sgW post);omega
    ·refine fin _ v.l v.h ?_ ?_ rfl
     ·rw[e3,gG,RV (by rw[bD,hw];exact Qt _),RX (by rw[bD,hw];exact Qt _),List.nil_append]
      show ((v.l.map (V.int k'))++sgV post).take n'=_
      rw[RS (by rw[Qy,v.h];exact Qt _),Ri (by rw[Qy,v.h];exact Qt _)]
     ·rw[e3,gG,QI,bD,hw,bD]
      show off+n'<=off+(n'+sgW post);omega
   ·rw[if_neg e] at h;cases h
  ·cases h
 ·rename_i cs hl
  obtain⟨s',vs,h1,h2,h3⟩:=hi.rd hl
  rw[hs] at h1;cases h1
  obtain⟨hb,h⟩:=aH h
  have hb:=QJ hb
  split at h
  ·rename_i xs hx
   cases h
   have hv:=tq hx ((h3.drop off).take n)
   have hlen:off+n<=vs.length:=by rw[h3.length];exact hb
   refine⟨vs,h2,hlen,fin vs xs ?_ hv hlen rfl⟩
   have:=congrArg List.length hv
   rw[Qy,QE,Q9] at this
   omega
  ·cases h
 ·cases h
theorem DT (hi:aj ρ b st fr σ) {x:TV R.T} {v:V} (h:Rl R ρ σ.top x v):∃v',Rl R ρ σ.top (clo1 st x) v'/\∀n,closeV (n+3) σ v=closeV (n+3) σ v':=by
 by_cases hx:∃o off,x= .ref o off
 ·obtain⟨o,off,rfl⟩:=hx
  unfold clo1
  dsimp only
  split
  ·rename_i cs hl
   obtain⟨s,h1,rfl⟩:=h.dY
   obtain⟨s',l,h2,h3,h4⟩:=hi.rd hl
   rw[h1] at h2;cases h2
   refine⟨.cref l off,by unfold Rl;exact⟨l,rfl,h4⟩,fun n=>?_⟩
   rw[DC]
   conv=>lhs;unfold closeV
   simp only[pclean,Qv,if_false,h3,Option.bind_some]
  ·exact⟨v,h,fun _=>rfl⟩
 ·by_cases hy:∃o,x= .mapr o
  ·obtain⟨o,rfl⟩:=hy
   unfold clo1
   dsimp only
   split
   ·rename_i k e m hl
    obtain⟨s,h1,rfl⟩:=h.jH
    obtain⟨s',h2,h3⟩:=hi.rd hl
    rw[h1] at h2;cases h2
    refine⟨.mapc (m.map fun p=>encD R k p.1) (m.map fun p=>encD R e p.2),by unfold Rl;rfl,fun n=>?_⟩
    have hp:=xP hR m
    rw[closeV_clean hp]
    have hp':=hp
    simp only[pclean,iP] at hp'
    have key:∀cs:List V,pcleanL cs=true->cs.mapM (closeV (n+2) σ)=some cs:=by
     intro cs
     induction cs with
     |nil=>intro _;rfl
     |cons a l ih=>
      intro h
      simp only[pcleanL,iP] at h
      rw[QH,closeV_clean h.1,ih h.2];rfl
    conv=>lhs;unfold closeV
    simp only[pclean,Qv,if_false,h3,Option.bind_some,key _ hp'.1,key _ hp'.2,Option.map_some]
   ·exact⟨v,h,fun _=>rfl⟩
  ·by_cases hz:∃o t,x= .vw o t
   ·obtain⟨o,t,rfl⟩:=hz
    unfold clo1
    dsimp only
    split
    ·rename_i t' l hl
     split
     ·rename_i e
      subst e
      have hO:=hi.rd hl
      refine⟨.lst .sh (l.map (encD R t')),by unfold Rl;exact⟨.sh,rfl,rfl⟩,fun n=>?_⟩
      rw[kr _ _ (fK hR t')]
      rcases h.jl with ⟨s,h1,rfl⟩| ⟨h1,h2⟩
      ·rcases hO.2 with h2| ⟨s',cs,h2,h3,h4⟩
       ·rw[h1] at h2;exact absurd h2.2 (by simp)
       ·rw[h1] at h2;cases h2
        have hlc:cs.length=l.length*szD R t':=by rw[h4.length,kH]
        have hlen:l.length=ρ.ln o:=hO.1
        conv=>lhs;unfold closeV
        simp only[pclean,Qv,if_false,h3,Option.bind_some,Q7,Rk]
        rw[if_pos (by rw[hlc,hlen];exact Qt _),Ri (by rw[hlc,hlen];exact Qt _),xQ hR l cs h4 n σ]
        simp only[Option.bind_some]
        rw[<-hlen,xR hR l,xS hR l,if_pos rfl]
        rfl
      ·have hl0:l=[]:=Rf (hO.1.trans h1)
       subst hl0
       rcases h2 with rfl|rfl<;>exact kr _ ([]:List (Den R.T t')) (fK hR t')
     ·exact⟨v,h,fun _=>rfl⟩
    ·exact⟨v,h,fun _=>rfl⟩
   ·by_cases hz2:∃o off k n lo hi,x= .sv o off k n lo hi
    ·obtain⟨o,off,k,n,lo,hi',rfl⟩:=hz2
     unfold clo1
     dsimp only
     split
     ·rename_i l hl
      obtain⟨s,h1,hB,rfl⟩:=h.kC
      obtain⟨cs,c1,c2,c3,c4⟩:=DR hR hi hl h1 hB
      obtain⟨p1,p2,p3,_,_⟩:=lQ hB
      refine⟨.lst .sh (l.map (V.int k)),by unfold Rl;exact⟨.sh,rfl,rfl⟩,fun m=>?_⟩
      have hcl:closeV (m+3) σ (.lst .sh (l.map (V.int k)))=some (.lst .sh (l.map (V.int k))):=closeV_clean (by unfold pclean;exact sW k l)
      rw[hcl]
      conv=>lhs;unfold closeV
      simp only[pclean,Qv,if_false,c1,Option.bind_some,Nat.mul_one]
      rw[if_pos (by omega),c3]
      have key:∀cs:List V,pcleanL cs=true->cs.mapM (closeV (m+2) σ)=some cs:=by
       intro cs
       induction cs with
       |nil=>intro _;rfl
       |cons a l ih=>
        intro h
        simp only[pcleanL,iP] at h
        rw[QH,closeV_clean h.1,ih h.2];rfl
      rw[key _ (sW k l)]
      simp only[Option.bind_some]
      have hone:oneCells (l.map (V.int k))=true:=by unfold oneCells;rw[List.all_map];simp[oneCell]
      rw[hone,<-c4]
      have:=xW k l []
      rw[QX] at this
      rw[this];rfl
     ·exact⟨v,h,fun _=>rfl⟩
    ·by_cases hz3:∃o t a b,x= .sub o t a b
     ·obtain⟨o,t,a,b,rfl⟩:=hz3
      unfold clo1
      dsimp only
      split
      ·rename_i t' l hl
       split
       ·rename_i e
        subst e
        have hO:=hi.rd hl
        have hlen:l.length=ρ.ln o:=hO.1
        obtain⟨g0,g1,g2,h⟩:=h.jI
        refine⟨.lst .sh ((subI l a b).map (encD R t')),by unfold Rl;exact⟨.sh,rfl,rfl⟩,fun n=>?_⟩
        rw[kr _ _ (fK hR t')]
        have hsl:(subI l a b).length=(b-a).toNat:=by rw[Dw g0 g1,QE,Q9];omega
        rcases h with ⟨s,cp,h1,h2,rfl⟩| ⟨e,c,rfl⟩
        ·rcases hO.2 with h2| ⟨s',cs,h2,h3,h4⟩
         ·rw[h1] at h2;exact absurd h2.2 (by simp)
         ·rw[h1] at h2;cases h2
          have hlc:cs.length=l.length*szD R t':=by rw[h4.length,kH]
          have hp:=M0 g0 g1 h4
          have hle:a.toNat*szD R t'+(b-a).toNat*szD R t'<=cs.length:=by
           rw[hlc,<-QZ];exact QU _ (by omega)
          conv=>lhs;unfold closeV
          simp only[pclean,Qv,if_false,h3,Option.bind_some]
          rw[if_pos hle,xQ hR _ _ hp n σ]
          simp only[Option.bind_some]
          rw[<-hsl,xR hR,xS hR,if_pos rfl]
          rfl
        ·have hl0:subI l a b=[]:=Rf (by rw[hsl,e];simp)
         rw[hl0]
         exact kr _ ([]:List (Den R.T t')) (fK hR t')
       ·exact⟨v,h,fun _=>rfl⟩
      ·exact⟨v,h,fun _=>rfl⟩
     ·have:clo1 st x=x:=by cases x<;>first|rfl|exact absurd ⟨_,_,rfl⟩ hx|exact absurd ⟨_,rfl⟩ hy|exact absurd ⟨_,_,rfl⟩ hz|exact absurd ⟨_,_,_,_,_,_,rfl⟩ hz2|exact absurd ⟨_,_,_,_,rfl⟩ hz3
      rw[this];exact⟨v,h,fun _=>rfl⟩
theorem tu (hi:aj ρ b st fr σ):∀{x:List (TV R.T)} {v:List V},RlL R ρ σ.top x v->∃v',RlL R ρ σ.top (clo1s st x) v'/\∀n,v.mapM (closeV (n+3) σ)=v'.mapM (closeV (n+3) σ)
 | [],v,h=>by rw[h.inv_nil];exact⟨[],rfl,fun _=>rfl⟩
 |x::xs,v,h=>by
  obtain⟨w,ws,rfl,h1,h2⟩:=h.inv_cons
  obtain⟨w',a1,a2⟩:=DT hR hi h1
  obtain⟨ws',b1,b2⟩:=tu hi h2
  exact⟨w'::ws',.cons' a1 b1,fun n=>by rw[QH,QH,a2,b2]⟩
theorem Nt (hi:aj ρ b st fr σ) {x:TV R.T} {v:V} (h:Rl R ρ σ.top x v):∃v',Rl R ρ σ.top (cloM st x) v'/\∀n,closeV (n+4) σ v=closeV (n+4) σ v':=by
 by_cases hx:∃f a b,x= .fn f a b
 ·obtain⟨f,a,b,rfl⟩:=hx
  obtain⟨a',b',rfl,ha,hb⟩:=h.dn
  obtain⟨va,a1,a2⟩:=tu hR hi ha
  obtain⟨vb,b1,b2⟩:=tu hR hi hb
  refine⟨.fn (.func f) va vb,⟨va,vb,rfl,a1,b1⟩,fun n=>?_⟩
  rw[closeV_fnc,closeV_fnc,a2,b2]
 ·by_cases hy:∃cs,x= .agg cs
  ·obtain⟨cs,rfl⟩:=hy
   obtain⟨l,rfl,hl⟩:=h.bY
   obtain⟨v',a1,a2⟩:=tu hR hi hl
   refine⟨.agg v',by unfold cloM;unfold Rl;exact⟨v',rfl,a1⟩,fun n=>?_⟩
   rw[wV,wV,a2]
  ·have:cloM st x=clo1 st x:=by cases x<;>first|rfl|exact absurd ⟨_,_,_,rfl⟩ hx|exact absurd ⟨_,rfl⟩ hy
   rw[this]
   obtain⟨v',h1,h2⟩:=DT hR hi h
   exact⟨v',h1,fun n=>h2 (n+1)⟩
theorem pY (hi:aj ρ b st fr σ):∀{x:List (TV R.T)} {v:List V},RlL R ρ σ.top x v->∃v',RlL R ρ σ.top (cloMs st x) v'/\∀n,v.mapM (closeV (n+4) σ)=v'.mapM (closeV (n+4) σ)
 | [],v,h=>by rw[h.inv_nil];exact⟨[],rfl,fun _=>rfl⟩
 |x::xs,v,h=>by
  obtain⟨w,ws,rfl,h1,h2⟩:=h.inv_cons
  obtain⟨w',a1,a2⟩:=Nt hR hi h1
  obtain⟨ws',b1,b2⟩:=pY hi h2
  exact⟨w'::ws',.cons' a1 b1,fun n=>by rw[QH,QH,a2,b2]⟩
mutual
theorem xX:∀(k:Sk) (x:PayS R.T k) (tv:TV R.T) (v:V),cSk k=true->pk R k tv=some x->Rl R ρ top tv v->∀n σ,dep k<=n->closeV n σ v=some (encS R k x)
 |.d t,x,tv,v,_,h,hr,n,σ,hn=>by
  obtain⟨m,rfl⟩:∃m,n=m+3:=⟨n-3,by have:3<=n:=hn;omega⟩
  exact(wW hR (show unD R t tv=some x from h) hr).2.2.1 m σ
 |.l c t,x,tv,v,_,h,hr,n,σ,hn=>by
  obtain⟨m,rfl⟩:∃m,n=m+3:=⟨n-3,by have:3<=n:=hn;omega⟩
  obtain⟨c',rfl,_⟩:=(CO (show pkLst R c t tv=some x from h) hr).bW
  exact kr _ _ (fK hR _)
 |.agg l,x,tv,v,hc,h,hr,n,σ,hn=>by
  cases tv<;>first| (exact absurd (show none=some x from h) (by simp))|skip
  rename_i cs
  obtain⟨vs,rfl,hl⟩:=hr.bY
  unfold dep at hn
  obtain⟨m,rfl⟩:∃m,n=m+2:=⟨n-2,by omega⟩
  rw[BZ,fC l x cs vs (by unfold cSk at hc;exact hc) h hl (m+1) σ (by omega)];rfl
 |.cref l off,x,tv,v,hc,h,hr,n,σ,hn=>by
  cases tv<;>first| (exact absurd (show none=some x from h) (by simp))|skip
  rename_i cs off'
  have h':(bif Nat.beq off' off then pkL R l cs else none)=some x:=h
  obtain⟨hb,h'⟩:=aH h'
  rw[aJ hb] at hr
  obtain⟨vs,rfl,hl⟩:=hr.gy
  unfold dep at hn
  obtain⟨m,rfl⟩:∃m,n=m+2:=⟨n-2,by omega⟩
  rw[DC,fC l x cs vs (by unfold cSk at hc;exact hc) h' hl (m+1) σ (by omega)];rfl
 |.mapc k e,x,tv,v,_,h,hr,n,σ,hn=>by
  cases tv<;>first| (exact absurd (show none=some x from h) (by simp))|skip
  rename_i k' e' m
  obtain⟨e1,e2,e3⟩:=w9 (show castM R m=some x from h)
  subst e1;subst e2;cases e3
  obtain⟨m',rfl⟩:∃m,n=m+3:=⟨n-3,by have:3<=n:=hn;omega⟩
  rw[hr.ku]
  exact closeV_clean (xP hR m)
 |.fn f a b,x,tv,v,hc,h,hr,n,σ,hn=>by
  cases tv<;>first| (exact absurd (show none=some x from h) (by simp))|skip
  rename_i f' a' b'
  have h':(bif Nat.beq f' f then (match pkL R a a' with
   |some x=>match pkL R b b' with
    |some y=>some (x,y)
    |none=>none
   |none=>none) else none)=some x:=h
  obtain⟨hb,h'⟩:=aH h'
  rw[aJ hb] at hr
  obtain⟨va,vb,rfl,ha,hbb⟩:=hr.dn
  unfold cSk at hc
  rw[iP] at hc
  unfold dep at hn
  obtain⟨m,rfl⟩:∃m,n=m+2:=⟨n-2,by omega⟩
  cases h1:pkL R a a' with
  |none=>simp only[h1] at h';cases h'
  |some y=>
   cases h2:pkL R b b' with
   |none=>simp only[h1,h2] at h';cases h'
   |some z=>
    simp only[h1,h2] at h';cases h'
    rw[closeV_fnc,fC a y a' va hc.1 h1 ha (m+1) σ (by omega),fC b z b' vb hc.2 h2 hbb (m+1) σ (by omega)];rfl
 |.ref _ _,_,_,_,h,_,_,_,_,_=>by simp[cSk] at h
 |.mapr _,_,_,_,h,_,_,_,_,_=>by simp[cSk] at h
 |.nils,_,_,_,h,_,_,_,_,_=>by simp[cSk] at h
 |.vw _ _,_,_,_,h,_,_,_,_,_=>by simp[cSk] at h
 |.sub _ _,_,_,_,h,_,_,_,_,_=>by simp[cSk] at h
 |.sg l,x,tv,v,_,h,hr,n,σ,hn=>by
  cases tv<;>first| (exact absurd (show none=some x from h) (by simp))|skip
  rename_i ss
  obtain⟨m,rfl⟩:∃m,n=m+1:=⟨n-1,by have:3<=n:=hn;omega⟩
  rw[hr.mY]
  show _=some (V.agg (sgV (upG l x)))
  rw[sM (show pkG l ss=some x from h)]
  exact closeV_clean (xV ss)
 |.undef,_,_,_,h,_,_,_,_,_=>by simp[cSk] at h
theorem fC:∀(l:List Sk) (x:PayL R.T l) (cs:List (TV R.T)) (vs:List V),cSkL l=true->pkL R l cs=some x->RlL R ρ top cs vs->∀n σ,depL l<=n->vs.mapM (closeV n σ)=some (encSL R l x)
 | [],x,cs,vs,_,h,hr,n,σ,hn=>by
   cases cs with
   |nil=>rw[hr.inv_nil];rfl
   |cons c cs=>exact absurd (show none=some x from h) (by simp)
 | [k],x,cs,vs,hc,h,hr,n,σ,hn=>by
   unfold cSkL at hc
   rw[iP] at hc
   unfold depL at hn
   cases cs with
   |nil=>exact absurd (show none=some x from h) (by simp)
   |cons c cs=>
    cases cs with
    |nil=>
     obtain⟨v,l,rfl,h1,h2⟩:=hr.inv_cons
     rw[h2.inv_nil,QH,xX k x c v hc.1 h h1 n σ (by omega)];rfl
    |cons c' cs=>exact absurd (show none=some x from h) (by simp)
 |k::k'::l,x,cs,vs,hc,h,hr,n,σ,hn=>by
  unfold cSkL at hc
  rw[iP] at hc
  unfold depL at hn
  cases cs with
  |nil=>exact absurd (show none=some x from h) (by simp)
  |cons c cs=>
   have h':(match pk R k c with
    |some x=>match pkL R (k'::l) cs with
     |some p=>some (x,p)
     |none=>none
    |none=>none)=some x:=h
   obtain⟨v,vs,rfl,h1,h2⟩:=hr.inv_cons
   cases hu:pk R k c with
   |none=>simp only[hu] at h';cases h'
   |some y=>
    cases hs:pkL R (k'::l) cs with
    |none=>simp only[hu,hs] at h';cases h'
    |some q=>
     simp only[hu,hs] at h'
     obtain rfl:=QL h'
     rw[QH,xX k y c v hc.1 hu h1 n σ (by omega),fC (k'::l) q cs vs hc.2 hs h2 n σ (by omega)];rfl
end
mutual
theorem p8:∀(tv:TV R.T) (v:V),stV tv=true->Rl R ρ top tv v->pclean v=true
 |.int _ _,v,_,h=>by rw[h.inv_int];exact wM _ _
 |.bool _,v,_,h=>by rw[h.fA];exact wN _
 |.blit _,v,_,h=>by rw[h.ig];exact wN _
 |.str _,v,_,h=>by rw[h.dH];exact BS _
 |.nilp,v,_,h=>by unfold Rl at h;subst h;simp[pclean]
 |.nilf,v,_,h=>by unfold Rl at h;subst h;simp[pclean]
 |.nilm,v,_,h=>by unfold Rl at h;subst h;simp[pclean]
 |.nili,v,_,h=>by unfold Rl at h;subst h;simp[pclean]
 |.lst c t l,v,hs,h=>by
  cases c<;>simp only[stV,Qv] at hs
  obtain⟨c',rfl,hc⟩:=h.bW
  obtain rfl:c'= .sh:=hc
  exact sG (fK hR t) l
 |.agg cs,v,hs,h=>by
  obtain⟨l,rfl,hl⟩:=h.bY
  unfold pclean;exact iK cs l (by unfold stV at hs;exact hs) hl
 |.tup cs,v,hs,h=>by
  obtain⟨l,rfl,hl⟩:=h.mX
  unfold pclean;exact iK cs l (by unfold stV at hs;exact hs) hl
 |.mapc k e m,v,_,h=>by rw[h.ku];exact xP hR m
 |.fn f a b,v,hs,h=>by
  obtain⟨a',b',rfl,ha,hb⟩:=h.dn
  unfold stV at hs
  rw[iP] at hs
  unfold pclean;rw[iK a a' hs.1 ha,iK b b' hs.2 hb];rfl
 |.nils,_,hs,_=>by simp[stV] at hs
 |.ref _ _,_,hs,_=>by simp[stV] at hs
 |.cref cs off,v,hs,h=>by
  obtain⟨l,rfl,hl⟩:=h.gy
  unfold pclean;exact iK cs l (by unfold stV at hs;exact hs) hl
 |.vw _ _,_,hs,_=>by simp[stV] at hs
 |.sub _ _ _ _,_,hs,_=>by simp[stV] at hs
 |.eref _ _ _ _,_,hs,_=>by simp[stV] at hs
 |.sg ss,v,_,h=>by rw[h.mY];exact xV ss
 |.sv _ _ _ _ _ _,_,hs,_=>by simp[stV] at hs
 |.sel _ _ _ _ _ _,_,hs,_=>by simp[stV] at hs
 |.gel _ _ _ _,_,hs,_=>by simp[stV] at hs
 |.mapr _,_,hs,_=>by simp[stV] at hs
 |.opt _ _ _,_,hs,_=>by simp[stV] at hs
 |.undef,_,hs,_=>by simp[stV] at hs
 |.gone,_,hs,_=>by simp[stV] at hs
theorem iK:∀(l:List (TV R.T)) (vs:List V),stL l=true->RlL R ρ top l vs->pcleanL vs=true
 | [],vs,_,h=>by rw[h.inv_nil];rfl
 |x::l,vs,hs,h=>by
  obtain⟨v,ws,rfl,h1,h2⟩:=h.inv_cons
  unfold stL at hs
  rw[iP] at hs
  unfold pcleanL;rw[p8 x v hs.1 h1,iK l ws hs.2 h2];rfl
end
theorem DU {x:TV R.T} {v:V} (hs:cl1 x=true) (h:Rl R ρ top x v):pclean (aP v)=true:=by
 have key:stV x=true->pclean (aP v)=true:=fun hs=>by
  have:=p8 hR x v hs h
  cases v with
  |lst c l=>cases c<;>simp[pclean] at this<;>simpa [aP,pclean] using this
  |_=>exact this
 cases x<;>first|exact key hs|skip
 ·rw[h.eP];simp[aP,pclean,pcleanL]
 ·obtain⟨c',rfl,hc⟩:=h.bW
  exact sG (fK hR _) _
theorem DV:∀{x:List (TV R.T)} {v:List V},cl1s x=true->RlL R ρ top x v->pcleanL (v.map aP)=true
 | [],vs,_,h=>by rw[h.inv_nil];rfl
 |x::l,vs,hs,h=>by
  obtain⟨v,ws,rfl,h1,h2⟩:=h.inv_cons
  unfold cl1s at hs
  rw[iP] at hs
  rw[QA];unfold pcleanL;rw[DU hR hs.1 h1,DV hs.2 h2];rfl
theorem Nu {x:TV R.T} {v:V} (hs:clV x=true) (h:Rl R ρ top x v):pclean (er v)=true:=by
 by_cases hx:∃cs,x= .agg cs
 ·obtain⟨cs,rfl⟩:=hx
  obtain⟨l,rfl,hl⟩:=h.bY
  show pclean (.agg (l.map aP))=true
  unfold pclean;exact DV hR hs hl
 ·by_cases hy:∃ss,x= .sg ss
  ·obtain⟨ss,rfl⟩:=hy
   rw[h.mY,Nr];exact xV ss
  have hs':cl1 x=true:=by cases x<;>first|exact hs|exact absurd ⟨_,rfl⟩ hx
  have h1:=DU hR hs' h
  have hne:∀cs,v≠ .agg cs:=by
   rintro cs rfl
   cases x<;>first|exact hy ⟨_,rfl⟩| (unfold Rl at h;simp at h;done)|exact hx ⟨_,rfl⟩| (simp[cl1,stV] at hs';done)
  rw[LZ hne];exact h1
theorem p9:∀{x:List (TV R.T)} {v:List V},clVs x=true->RlL R ρ top x v->v.all (fun a=>pclean (er a))=true
 | [],vs,_,h=>by rw[h.inv_nil];rfl
 |x::l,vs,hs,h=>by
  obtain⟨v,ws,rfl,h1,h2⟩:=h.inv_cons
  unfold clVs at hs
  rw[iP] at hs
  rw[List.all_cons,Nu hR hs.1 h1,p9 hs.2 h2];rfl
theorem xY:∀(l:List Sk) (x:PayL R.T l),flatSk l=true->bQ (encSL R l x)=true
 | [],x,_=>rfl
 | [k],x,h=>by
   cases k<;>simp only[flatSk,Bool.and_true,Qv] at h
   ·rename_i t
    show (flat (encD R t x)&& bQ [])=true
    cases t<;>simp only[flatT,Qv] at h<;>rfl
   ·rename_i ks
    show (flat (.agg (sgV (upG ks x)))&& bQ [])=true
    unfold flat;rw[sZ];rfl
 |k::k'::l,x,h=>by
  cases k<;>simp only[flatSk,Qv] at h
  ·rename_i t
   rw[iP] at h
   show (flat (encD R t x.1)&& bQ (encSL R (k'::l) x.2))=true
   rw[xY (k'::l) x.2 h.2]
   have:=h.1
   cases t<;>simp only[flatT,Qv] at this<;>rfl
  ·rename_i ks
   show (flat (.agg (sgV (upG ks x.1)))&& bQ (encSL R (k'::l) x.2))=true
   rw[xY (k'::l) x.2 h]
   unfold flat;rw[sZ];rfl
omit hR in
theorem Nv {vs:List V} (h:bQ vs=true):flat (retV vs)=true:=by
 match vs with
 | []=>simp[retV,flat,bQ]
 | [v]=>simp only[bQ,Bool.and_true] at h;exact h
 |v::w::vs=>show flat (.tup _)=true;unfold flat;exact h
mutual
theorem xZ:∀(k:Sk) (x:PayS R.T k),cSk k=true->Rl R ρ top (up R .sh k x) (encS R k x)
 |.d t,x,_=>Cj hR t x
 |.l c t,x,h=>by
  refine⟨.sh,rfl,?_⟩
  cases c<;>first|trivial|rfl| (simp[cSk] at h;done)
 |.agg l,x,h=>⟨_,rfl,jq l x (by unfold cSk at h;exact h)⟩
 |.cref l off,x,h=>⟨_,rfl,jq l x (by unfold cSk at h;exact h)⟩
 |.mapc k e,x,_=>rfl
 |.fn f a b,x,h=>by
  unfold cSk at h
  rw[iP] at h
  exact⟨_,_,rfl,jq a x.1 h.1,jq b x.2 h.2⟩
 |.ref _ _,_,h=>by simp[cSk] at h
 |.mapr _,_,h=>by simp[cSk] at h
 |.nils,_,h=>by simp[cSk] at h
 |.vw _ _,_,h=>by simp[cSk] at h
 |.sub _ _,_,h=>by simp[cSk] at h
 |.sg l,x,_=>rfl
 |.undef,_,h=>by simp[cSk] at h
theorem jq:∀(l:List Sk) (x:PayL R.T l),cSkL l=true->RlL R ρ top (upL R .sh l x) (encSL R l x)
 | [],_,_=>rfl
 | [k],x,h=>by
   unfold cSkL at h
   rw[iP] at h
   exact .cons' (xZ k x h.1) rfl
 |k::k'::l,x,h=>by
  unfold cSkL at h
  rw[iP] at h
  exact .cons' (xZ k x.1 h.1) (jq (k'::l) x.2 h.2)
end
omit hR in
theorem Nw {x:List (TV R.T)} {v:List V} (h:RlL R ρ top x v):Rl R ρ top (retT R x) (retV v):=by
 match x,h with
 | [],h=>rw[h.inv_nil];exact⟨[],rfl,rfl⟩
 | [a],h=>
   obtain⟨v,vs,rfl,h1,h2⟩:=h.inv_cons
   rw[h2.inv_nil];exact h1
 |a::b::l,h=>
  obtain⟨v,vs,rfl,h1,h2⟩:=h.inv_cons
  obtain⟨w,ws,rfl,h3,h4⟩:=h2.inv_cons
  exact⟨_,rfl,.cons' h1 (.cons' h3 h4)⟩
def DW:List V->List V
 |_::l=>.lst .nil []::l
 | []=>[]
def RegsOK (E:Env) (F:Nat->List (FR R)):Prop:=∀f,∀r∈F f,∀p x,r.F p=some x->(cSkL r.args=true->Pure E f (encSL R r.args p) (retV (encSL R r.res x)))/\
 (r.own=true->∀(τ:Ty) (h:r.res=[.d (.slice τ)]) (l:List (Den R.T τ)),(h▸x:PayL R.T [.d (.slice τ)])=l->
   (cSkL r.args=true->E.ownN f=false/\ko E f (encSL R r.args p) (szD R τ) (l.map (encD R τ)))/\
   (cSkL r.args=false->E.ownN f=true/\ko E f (DW (encSL R r.args p)) (szD R τ) (l.map (encD R τ))))
theorem DX {F:Nat->List (FR R)} (hF:RegsOK E F) {f:Nat} {c:Call} {fo:Operand} {o:Oper} {ah:Nat} {a' b':List V} (ho:o.op= .call c) (aS:c.callee= .value fo) (hf:fr.ev E fo= .fn (.func f) a' b') (hi:E.imp f=false) {args:List (TV R.T)}
 (ha:RlL R ρ σ.top args (a'++c.args.toList.map (fr.ev E)++b')) (hi':aj ρ b st fr σ):∀{l:List (FR R)} {r:Res R},(∀x∈l,x∈F f)->findF R args (cloMs st args) l=some r->fB E st ρ ah fr σ o r
 | [],r,_,h=>by cases h
 |q::l,r,hl,h=>by
  unfold findF at h
  split at h
  ·rename_i p hp
   obtain⟨hc,h⟩:=aH h
   cases h
   simp only[iP] at hc
   obtain⟨⟨⟨c1,c2⟩,c3⟩,c4⟩:=hc
   intro x hx
   have hP:=(hF f q (hl q (by simp)) p x hx).1 c1
   obtain⟨vs',v1,v2⟩:=pY hR hi' ha
   have qb:=fC hR q.args p (cloMs st args) _ c1 hp v1 20 σ (by have:=QJ c2;omega)
   have has:=(v2 16).trans qb
   have hcl:((a'++c.args.toList.map (fr.ev E)++b').all (fun x=>pclean (er x))||flat (retV (encSL R q.res x)))=true:=by
    rw[Rq] at c4⊢
    rcases c4 with c4|c4
    ·exact .inl (p9 hR c4 ha)
    ·exact .inr (Nv (xY hR _ _ c4))
   exact⟨retV (encSL R q.res x),⟨fun aO _ _ _ hw h'=>OW.call hw ho aS hf hi has hP hcl h' (Db ho aS hf aO),fun aO _ _ _ _ _ hw h'=>FW'.call hw ho aS hf hi has hP hcl h' (Db ho aS hf aO)⟩,Nw (jq hR _ _ c3)⟩
  ·exact DX hF ho aS hf hi ha hi' (fun x hx=>hl x (by simp[hx])) h
theorem Ny {t:TypeId} {x i:TV R.T} {v w:V} {r:Res R} (h:iaM E R t x i=some r) (hx:Rl R ρ top x v) (hi:Rl R ρ top i w):eB ρ top (indexAddrV E.P t v w) r:=by
 unfold iaM at h
 split at h
 ·rename_i e c u l k n hu
  split at h
  ·rename_i sz hs
   obtain⟨hb,h⟩:=aH h
   cases h
   have:=aJ hb;subst this
   obtain⟨c',rfl,_⟩:=hx.bW
   rw[hi.inv_int]
   intro a ha
   refine⟨.cref (encD R u a).cells 0,?_,?_⟩
   ·rw[wO,if_pos (by unfold isSliceT;rw[hu])]
    have:elemT E.P t=some e:=by unfold elemT;rw[hu]
    rw[this];simp only[Option.bind_some,hs,ha]
    rw[if_pos (nC hR u a).1]
   ·unfold Rl
    refine⟨_,rfl,(gF ?_ (Cj hR u a)).1⟩
    cases u<;>rfl
  ·cases h
 ·rename_i n e o off k m hu
  split at h
  ·rename_i sz hs
   cases h
   obtain⟨s,h1,rfl⟩:=hx.dY
   rw[hi.inv_int]
   intro hc
   have hc':0<=m/\m<n:=of_decide_eq_true hc
   refine⟨.ref (ρ.om.lc o) s (off+m.toNat*sz),?_,by unfold Rl;exact⟨s,h1,rfl⟩⟩
   unfold indexAddrV;rw[hu];dsimp only;rw[hs]
   simp[idx,dw,hc']
  ·cases h
 ·rename_i n e cs off k m hu
  split at h
  ·rename_i sz hs
   cases h
   obtain⟨l,rfl,h1⟩:=hx.gy
   rw[hi.inv_int]
   intro hc
   have hc':0<=m/\m<n:=of_decide_eq_true hc
   refine⟨.cref l (off+m.toNat*sz),?_,by unfold Rl;exact⟨l,rfl,h1⟩⟩
   unfold indexAddrV;rw[hu];dsimp only;rw[hs]
   simp[idx,dw,hc']
  ·cases h
 ·cases h
omit hR in
theorem Nz {t:TypeId} {x i:TV R.T} {v w:V} {r:Res R} (h:ixM E R t x i=some r) (hx:Rl R ρ top x v) (hi:Rl R ρ top i w):eB ρ top (kS E.P t v w) r:=by
 unfold ixM at h
 split at h
 ·rename_i s k n hu
  cases h
  rw[hx.dH,hi.inv_int]
  intro a ha
  refine⟨.int .u8 ((a.toNat:Nat):Int),?_,by unfold Rl;rfl⟩
  rw[Cb (by unfold isStrT;rw[hu]),ha];rfl
 ·cases h
end
end Aq
end
section
namespace Aq
open Go
section
variable {R:Reg} {E:Env}
variable {ρ:ak} {top:Nat->Nat} {b ah:Nat} {st:MS R.T} {fr:Fr} {σ:Sig} {o:Oper}
theorem qc {P:Program} {t e:TypeId} {n:Nat} (h:arrT P t=some (n,e)):P.underlying t=some (.array n e):=by
 unfold arrT at h
 split at h
 ·rename_i n' e' hu;cases h;exact hu
 ·cases h
theorem kJ {t:TypeId} (h:elG E t=true):szT E.P t=some 1/\isAggT E.P t=some false:=by
 unfold elG at h
 split at h
 ·rename_i sz ag h1 h2
  rw[iP] at h
  rw[aJ h.1] at h1
  cases ag
  ·exact⟨h1,h2⟩
  ·simp at h
 ·cases h
theorem kK (a b:List Sg):sgW (a++b)=sgW a+sgW b:=by rw[<-bD,gG,QI,bD,bD]
theorem DY {pre rest:List Sg} {n:Nat} (h:sgW pre=n) (k:Nat):(sgV (pre++rest)).drop (n+k)=(sgV rest).drop k:=by
 rw[gG,<-h,<-bD,RJ,RX (by omega),List.nil_append,RA]
theorem tF (s:Sg) (l:List Sg):sgV (s::l)=s.vs++sgV l:=rfl
theorem tH (s:Sg) (l:List Sg):sgW (s::l)=s.w+sgW l:=rfl
theorem yg {ρ:ak} {top:Nat->Nat} (k:IntKind):∀l:List Int,RlL R ρ top (l.map (TV.int k)) (l.map (V.int k))
 | []=>rfl
 |x::l=>.cons' (by unfold Rl;rfl) (yg k l)
theorem NA {n:Nat} (v:Vec n):(List.range n).map v.nth=v.l:=by
 apply List.ext_getElem
 ·rw[Qy,RL,v.h]
 ·intro i h1 h2
  rw[Ro,RB]
  unfold Vec.nth
  rw[Q0,QT h2];rfl
theorem yh {ρ:ak} {top:Nat->Nat}:∀ss:List Sg,RlL R ρ top (exG ss) (sgV ss)
 | []=>rfl
 |.i k x::l=>.cons' (by unfold Rl;rfl) (yh l)
 |.a k n v::l=>by
  show RlL R ρ top ((List.range n).map (fun j=>TV.int k (v.nth j))++exG l) (v.l.map (V.int k)++sgV l)
  refine RlL.append ?_ (yh l)
  have:(List.range n).map (fun j=>TV.int (T:=R.T) k (v.nth j))=v.l.map (TV.int k):=by
   rw[<-NA v,RQ];rfl
  rw[this]
  exact yg k v.l
theorem DZ {t:TypeId} {ss:List Sg} {off:Nat} {v:TV R.T} (h:ldG E R t ss off=some v):∃y,ldT E.P t (sgV ss) off=some y/\Rl R ρ top v y:=by
 unfold ldG at h
 split at h
 ·rename_i pre rest sz ag h1 h2 h3
  obtain⟨e1,w1⟩:=je h1
  split at h
  ·rename_i mid post h4
   obtain⟨e2,w2⟩:=je h4
   have hd:(sgV ss).drop off=sgV mid++sgV post:=by
    have:=DY (rest:=rest) w1 0
    rw[<-e1,Nat.add_zero] at this
    rw[this,e2,gG];rfl
   have hlen:(sgV ss).length=off+(sz+sgW post):=by rw[bD,e1,kK,w1,e2,kK,w2]
   unfold ldT;rw[h3,h2];simp only[Option.bind_some]
   cases ag with
   |true=>
    rw[cond_true] at h
    have hp:eU true sz (sgV ss) off=some (.agg (sgV mid)):=by
     unfold eU;rw[if_pos rfl,if_pos (by omega),hd,RS (by rw[bD,w2];exact Qt _),Ri (by rw[bD,w2];exact Qt _)]
    split at h
    ·cases h;exact⟨_,hp,by unfold Rl;rfl⟩
    ·cases h;exact⟨_,hp,by unfold Rl;exact⟨_,rfl,yh mid⟩⟩
   |false=>
    rw[cond_false] at h
    split at h
    ·rename_i k x
     cases h
     refine⟨.int k x,?_,by unfold Rl;rfl⟩
     unfold eU;simp only[Qv,if_false]
     have:=congrArg (fun l=>l[0]?) hd
     rw[List.getElem?_drop,Nat.add_zero] at this
     rw[this];rfl
    ·cases h
  ·cases h
 ·cases h
theorem D5 {n:Nat} (v:Vec n) {i:Int} (h:i.toNat<n):v.l[i.toNat]? =some (v.at' i):=by
 unfold Vec.at'
 rw[Q0,QT (by rw[v.h];exact h)];rfl
theorem D6 {ss pre post:List Sg} {off n:Nat} {k:IntKind} {v:Vec n} {i:Int} {t:TypeId} (h:splitG ss off=some (pre,.a k n v::post)) (hi:i.toNat<n) (ht:elG E t=true):ldT E.P t (sgV ss) (off+i.toNat)=some (.int k (v.at' i)):=by
 obtain⟨e1,w1⟩:=je h
 obtain⟨h1,h2⟩:=kJ ht
 unfold ldT;rw[h1,h2];simp only[Option.bind_some]
 unfold eU;simp only[Qv,if_false]
 rw[e1,gG,List.getElem?_append_right (by rw[bD,w1];omega),bD,w1,RA,tF,RZ (by rw[Sg.len];exact hi)]
 show (v.l.map (V.int k))[i.toNat]? =_
 rw[List.getElem?_map,D5 v hi];rfl
theorem yj {n:Nat} {l:List Int} (h:l.length=n):(Vec.lit n l).l=l:=by
 unfold Vec.lit;rw[dif_pos h]
theorem NC {l:List Int} {a m:Nat} (h:a+m<=l.length):(List.range m).map (fun j=>l.getD (a+j) 0)=(l.drop a).take m:=by
 apply List.ext_getElem
 ·rw[Qy,RL,QE,Q9];omega
 ·intro i h1 h2
  rw[Qy,RL] at h1
  rw[Ro,RB,List.getElem_take,List.getElem_drop,Q0,QT (by omega)];rfl
theorem NG {t:TypeId} {ss pre post:List Sg} {off n m:Nat} {k:IntKind} {v:Vec n} {i:Int} {y:TV R.T} (h:splitG ss off=some (pre,.a k n v::post)) (hi:i.toNat+m<=n) (hs:slG E R t k m n v i=some y):∃x,ldT E.P t (sgV ss) (off+i.toNat)=some x/\Rl R ρ top y x:=by
 obtain⟨e1,w1⟩:=je h
 unfold slG at hs
 split at hs
 ·rename_i m' e sz h1 h2 h3
  obtain⟨hc,hs⟩:=aH hs
  rw[iP] at hc
  have e2:=aJ hc.1;have e3:=aJ hc.2
  rw[e3] at h2
  have hp:ldT E.P t (sgV ss) (off+i.toNat)=some (.agg (((v.l.drop i.toNat).take m).map (V.int k))):=by
   unfold ldT;rw[h3,h2];simp only[Option.bind_some]
   unfold eU
   rw[if_pos rfl,if_pos (by rw[bD,e1,kK,w1,tH];show off+i.toNat+m<=off+(n+_);omega)]
   rw[e1,DY w1,tF]
   show some (V.agg ((((v.l.map (V.int k))++sgV post).drop i.toNat).take m))=_
   rw[RV (by rw[Qy,v.h];omega),RS (by rw[Q9,Qy,v.h];omega),List.map_take,List.map_drop]
  refine⟨_,hp,?_⟩
  have hl:((v.l.drop i.toNat).take m).length=m:=by rw[QE,Q9,v.h];omega
  split at hs
  ·cases hs
   unfold Rl
   show V.agg _= .agg (((v.slc i m).l.map (V.int k))++[])
   unfold Vec.slc
   rw[yj hl,QX]
  ·cases hs
   unfold Rl
   refine⟨_,rfl,?_⟩
   have:=NC (l:=v.l) (a:=i.toNat) (m:=m) (by rw[v.h];exact hi)
   have e:(List.range m).map (fun j=>TV.int (T:=R.T) k (v.nth (i.toNat+j)))=((v.l.drop i.toNat).take m).map (TV.int k):=by
    rw[<-this,RQ];rfl
   rw[e];exact yg k _
 ·cases hs
def kW:List SgK->Nat
 | []=>0
 |.i _::l=>1+kW l
 |.a _ n::l=>n+kW l
theorem tJ:∀ss:List Sg,kW (ss.map Sg.sk)=sgW ss
 | []=>rfl
 |.i k x::l=>by show 1+kW (l.map Sg.sk)=1+sgW l;rw[tJ l]
 |.a k n v::l=>by show n+kW (l.map Sg.sk)=n+sgW l;rw[tJ l]
theorem NH:∀{ks:List SgK} {cs:List (TV R.T)} {ss:List Sg} {vs:List V},cutG ks cs=some ss->RlL R ρ top cs vs->vs=sgV ss/\sgW ss=kW ks:=by
 intro ks
 induction ks with
 |nil=>
  intro cs ss vs h hr
  cases cs with
  |nil=>cases h;exact⟨hr.inv_nil,rfl⟩
  |cons c cs=>cases h
 |cons k ks ih=>
  intro cs ss vs h hr
  cases k with
  |i k=>
   cases cs with
   |nil=>cases h
   |cons c cs=>
    obtain⟨v,ws,rfl,h1,h2⟩:=hr.inv_cons
    cases c<;>first| (exact absurd (show none=some ss from h) (by simp))|skip
    rename_i k' x
    have h':(if k'=k then (match cutG ks cs with
     |some r=>some (Sg.i k x::r)
     |none=>none) else none)=some ss:=h
    by_cases e:k'=k
    ·subst e
     rw[if_pos rfl] at h'
     cases hc:cutG ks cs with
     |none=>rw[hc] at h';cases h'
     |some r=>
      rw[hc] at h';cases h'
      obtain⟨g1,g2⟩:=ih hc h2
      exact⟨by rw[h1.inv_int,g1];rfl,by show 1+sgW r=1+kW ks;rw[g2]⟩
    ·rw[if_neg e] at h';cases h'
  |a k n=>
   have h':(match unIs k (cs.take n) with
    |some xs=>bif Nat.beq xs.length n then (match cutG ks (cs.drop n) with
     |some r=>some (Sg.a k n (Vec.lit n xs)::r)
     |none=>none) else none
    |none=>none)=some ss:=by cases cs<;>exact h
   cases hx:unIs k (cs.take n) with
   |none=>rw[hx] at h';cases h'
   |some xs=>
    rw[hx] at h'
    dsimp only at h'
    obtain⟨hb,h'⟩:=aH h'
    have hb:=aJ hb
    cases hc:cutG ks (cs.drop n) with
    |none=>rw[hc] at h';cases h'
    |some r=>
     rw[hc] at h';cases h'
     obtain⟨g1,g2⟩:=ih hc (hr.drop n)
     have g3:=tq hx (hr.take n)
     refine⟨?_,by show n+sgW r=n+kW ks;rw[g2]⟩
     show vs=(Vec.lit n xs).l.map (V.int k)++sgV r
     rw[yj hb,<-g3,<-g1,Rt]
theorem yt:∀{a b:List SgK},skEq a b=true->a=b
 | [],[],_=>rfl
 |.i k::l,.i k'::l',h=>by
  have h':((if k=k' then true else false)&& skEq l l')=true:=h
  rw[iP] at h'
  have e:k=k':=by by_cases e:k=k';exact e;rw[if_neg e] at h';cases h'.1
  rw[e,yt h'.2]
 |.a k n::l,.a k' n'::l',h=>by
  have h':((if k=k' then true else false)&& Nat.beq n n'&& skEq l l')=true:=h
  rw[iP,iP] at h'
  have e:k=k':=by by_cases e:k=k';exact e;rw[if_neg e] at h';cases h'.1.1
  rw[e,aJ h'.1.2,yt h'.2]
 | [],.i _::_,h=>by cases h
 | [],.a _ _::_,h=>by cases h
 |.i _::_,[],h=>by cases h
 |.a _ _::_,[],h=>by cases h
 |.i _::_,.a _ _::_,h=>by cases h
 |.a _ _::_,.i _::_,h=>by cases h
theorem qg:∀ss:List Sg,oneCells (sgV ss)=true
 | []=>rfl
 |.i k x::l=>by show (oneCell (.int k x)&& oneCells (sgV l))=true;rw[qg l];rfl
 |.a k n v::l=>by
  show oneCells (v.l.map (V.int k)++sgV l)=true
  have h1:=qg l
  unfold oneCells at h1⊢
  rw[List.all_append,h1,List.all_map];simp[oneCell]
theorem D7 {ks:List SgK} {tv:TV R.T} {ss:List Sg} {v:V} (h:coG ks tv=some ss) (hr:Rl R ρ top tv v):v.cells=sgV ss/\sgW ss=kW ks/\notRaw v=true:=by
 unfold coG at h
 split at h
 ·rename_i ss'
  obtain⟨h1,h⟩:=aH h
  cases h
  rw[hr.mY,yt h1]
  exact⟨rfl,(tJ ss).symm,rfl⟩
 ·obtain⟨l,rfl,hl⟩:=hr.bY
  obtain⟨h1,h2⟩:=NH h hl
  exact⟨h1,h2,rfl⟩
 ·rename_i k x
  split at h
  ·split at h
   ·rename_i e;subst e;cases h
    rw[hr.inv_int];exact⟨rfl,rfl,rfl⟩
   ·cases h
  ·cases h
 ·cases h
theorem yu {k:IntKind}:∀{cs:List (TV R.T)} {vs:List V},allZ k cs=true->RlL R ρ top cs vs->vs=List.replicate cs.length (V.int k 0)
 | [],vs,_,hr=>hr.inv_nil
 |c::cs,vs,h,hr=>by
  obtain⟨v,ws,rfl,h1,h2⟩:=hr.inv_cons
  cases c<;>first| (exact absurd (show false=true from h) (by simp))|skip
  rename_i k' x
  have h':((if k'=k then (if x=0 then true else false) else false)&& allZ k cs)=true:=h
  rw[iP] at h'
  have e1:k'=k:=by by_cases e:k'=k;exact e;rw[if_neg e] at h';cases h'.1
  have e2:x=0:=by by_cases e:x=0;exact e;rw[if_pos e1,if_neg e] at h';cases h'.1
  rw[h1.inv_int,e1,e2,yu h'.2 h2];rfl
theorem NI:∀{ks:List SgK} {cs:List (TV R.T)} {vs:List V},zerosG ks cs=true->RlL R ρ top cs vs->vs=sgV (ks.map zeroG):=by
 intro ks
 induction ks with
 |nil=>
  intro cs vs h hr
  cases cs with
  |nil=>exact hr.inv_nil
  |cons c cs=>cases h
 |cons k ks ih=>
  intro cs vs h hr
  cases k with
  |i k=>
   cases cs with
   |nil=>cases h
   |cons c cs=>
    obtain⟨v,ws,rfl,h1,h2⟩:=hr.inv_cons
    have h':(allZ k [c]&& zerosG ks cs)=true:=h
    rw[iP] at h'
    have:=yu h'.1 (RlL.cons' h1 RlL.nil')
    cases this
    rw[ih h'.2 h2];rfl
  |a k n=>
   have h':(Nat.ble n cs.length&& allZ k (cs.take n)&& zerosG ks (cs.drop n))=true:=by cases cs<;>exact h
   rw[iP,iP] at h'
   have h1:=QJ h'.1.1
   have h2:=yu h'.1.2 (hr.take n)
   have h3:=ih h'.2 (hr.drop n)
   rw[<-Rt n vs,h2,h3,QE,RG h1]
   show _=(List.replicate n (0:Int)).map (V.int k)++sgV (ks.map zeroG)
   rw[List.map_replicate]
theorem NJ {pre mid post mid':List Sg} {off sz:Nat} (h1:sgW pre=off) (h2:sgW mid=sz) (h3:sgW mid'=sz):spliceL (sgV (pre++(mid++post))) off (sgV mid')=sgV (pre++(mid'++post)):=by
 unfold spliceL
 rw[gG,gG,gG,gG,bD,h3]
 rw[RS (by rw[bD,h1];exact Qt _),Ri (by rw[bD,h1];exact Qt _)]
 rw[<-QS (sgV pre) (sgV mid),RV (by rw[QI,bD,bD,h1,h2];exact Qt _),RX (by rw[QI,bD,bD,h1,h2];exact Qt _)]
 rw[List.nil_append,QS]
theorem D8 {pre post:List Sg} {off n a:Nat} {k:IntKind} {v w:Vec n} {l:List Int} (h1:sgW pre=off) (h2:a+l.length<=n) (h3:w.l=v.l.take a++l++v.l.drop (a+l.length)):spliceL (sgV (pre++(.a k n v::post))) (off+a) (l.map (V.int k))=sgV (pre++(.a k n w::post)):=by
 unfold spliceL
 rw[gG,gG,tF,tF]
 show ((sgV pre++(v.l.map (V.int k)++sgV post)).take (off+a)++l.map (V.int k)++(sgV pre++(v.l.map (V.int k)++sgV post)).drop (off+a+(l.map (V.int k)).length))=sgV pre++(w.l.map (V.int k)++sgV post)
 have hp:(sgV pre).length=off:=by rw[bD,h1]
 have hv:(v.l.map (V.int k)).length=n:=by rw[Qy,v.h]
 rw[Qy]
 rw[List.take_append,Ri (by omega),hp,RA,RS (by omega)]
 rw[RJ,RX (by omega),hp,List.nil_append,show off+a+l.length-off=a+l.length by omega,RV (by omega)]
 rw[h3,Rh,Rh,List.map_take,List.map_drop]
 simp only[QS]
theorem NM {l:List Int} {a:Nat} {y:Int} (h:a<l.length):l.set a y=l.take a++[y]++l.drop (a+1):=by
 rw[List.set_eq_take_append_cons_drop,if_pos h];simp
theorem yw {g:Nat} {t:TypeId} {k:IntKind} {n:Nat} {v:Vec n} (h:glG E R g t=some ⟨k,n,v⟩):∃cs e,E.glob g=some cs/\cs=v.l.map (V.int k)/\arrT E.P t=some (n,e)/\szT E.P t=some n/\isAggT E.P t=some true/\elG E e=true:=by
 unfold glG at h
 split at h
 ·rename_i cs k' n' v' m e sz ag h1 h2 h3 h4 h5
  obtain⟨hc,h⟩:=aH h
  cases h
  simp only[iP] at hc
  obtain⟨⟨⟨⟨c1,c2⟩,c3⟩,c4⟩,c5⟩:=hc
  subst c1
  rw[aJ c2] at h3;rw[aJ c3] at h4
  refine⟨cs,e,h1,?_,h3,h4,h5,c4⟩
  have key:∀(cs:List V) (l:List Int),eqVs k cs l=true->cs=l.map (V.int k):=by
   intro cs
   induction cs with
   |nil=>intro l h;cases l with
    |nil=>rfl
    |cons y l=>cases h
   |cons c cs ih=>
    intro l h
    cases l with
    |nil=>cases c<;>cases h
    |cons y l=>
     cases c<;>first| (exact absurd (show false=true from h) (by simp))|skip
     rename_i k' x
     have h':((if k'=k then (if x=y then true else false) else false)&& eqVs k cs l)=true:=h
     rw[iP] at h'
     have e1:k'=k:=by by_cases e:k'=k;exact e;rw[if_neg e] at h';cases h'.1
     have e2:x=y:=by by_cases e:x=y;exact e;rw[if_pos e1,if_neg e] at h';cases h'.1
     rw[e1,e2,ih l h'.2];rfl
  exact key cs v.l c5
 ·cases h
theorem tK {i:Int} {n:Nat} (h:inN i n=true):0<=i/\i<n/\i.toNat<n:=by
 have:=of_decide_eq_true h
 omega
theorem yx {k:IntKind} {i:Int} {n:Nat} (h:inN i n=true):idx (.int k i) n=some i.toNat:=by
 obtain⟨h1,h2,_⟩:=tK h
 simp[idx,dw,h1,h2]
theorem tL {k:IntKind} {i:Int} {n:Nat} (h1:0<=i) (h2:i<=n):bnd (.int k i) n=some i.toNat:=by
 simp[bnd,dw,h1,h2]
theorem D9 {n:Nat} {lo hi:Option Int} {vl vh:Option V} (hl:(lo=none/\vl=none)\/∃n k,lo=some n/\vl=some (.int k n)) (hh:(hi=none/\vh=none)\/∃n k,hi=some n/\vh=some (.int k n)) (hb:svB n lo hi=true):
 bO n n vl vh none=some ((loI lo).toNat,(hiI n hi).toNat,n):=by
 rcases hl with ⟨rfl,rfl⟩| ⟨a,k,rfl,rfl⟩<;>rcases hh with ⟨rfl,rfl⟩| ⟨c,k',rfl,rfl⟩<;>simp only[svB,decide_eq_true_eq] at hb
 ·simp[bO,loI,hiI]
 ·simp[bO,loI,hiI,tL hb.1 hb.2]
 ·simp[bO,loI,hiI,tL (i:=a) (n:=n) hb.1 (by omega)]
 ·simp[bO,loI,hiI,tL (i:=c) (n:=n) (by omega) hb.2.2.1,tL (i:=a) (n:=c.toNat) hb.1 (by omega)]
theorem NP {P:Program} {t e:TypeId} {y:V} {ys cs:List V} {loc:Aq.Loc} {s off len cap:Nat} {ag:Bool} (he:elemT P t=some e) (z1:szT P e=some 1) (z2:isAggT P e=some false) (q2:jA y=false) (q1:dG σ false 1 undefV y=some ys) (hone:ys.all (fun v=>oneCells v.cells)=true)
 (h4:σ.cellsAt loc s=some cs) (hb:off+min ys.length len<=cs.length):copyV P σ t (.vw loc s off len cap 1 ag) y=some (.int .i64 (min ys.length len:Nat),σ.setObj loc s (.cells (spliceL cs off ((ys.take (min ys.length len)).flatMap V.cells)))):=by
 unfold copyV
 rw[he];simp only[Option.bind_some,z1,z2]
 rw[if_pos ⟨q2,rfl⟩,q1];simp only[Option.bind_some]
 rw[if_pos hone,h4];simp only[Option.bind_some]
 rw[if_pos ⟨trivial,by rw[Nat.mul_one];exact hb⟩]
theorem tO {t:TypeId} {x:TV R.T} {lo hi:Option (TV R.T)} {v:V} {vl vh:Option V} {r:Res R} (h:slicG E R t x lo hi st=some r) (hx:Rl R ρ σ.top x v) (him:aj ρ b st fr σ)
 (hl:∀y,lo=some y->∃w,vl=some w/\Rl R ρ σ.top y w) (hln:lo=none->vl=none) (hh:∀y,hi=some y->∃w,vh=some w/\Rl R ρ σ.top y w) (hhn:hi=none->vh=none):eB ρ σ.top (dI E.P σ t v vl vh none) r:=by
 unfold slicG at h
 split at h
 ·rename_i p off lo' hi' n e e1 e2 ha
  have b1:=kF e1 hl hln
  have b2:=kF e2 hh hhn
  obtain⟨hel,h⟩:=aH h
  obtain⟨z1,z2⟩:=kJ hel
  obtain⟨s,h1,rfl⟩:=hx.dY
  have fin:∀(k:IntKind) (cs:List V),σ.cellsAt (ρ.om.lc p) s=some cs->off+n<=cs.length->svB n lo' hi'=true->∃y,dI E.P σ t (.ref (ρ.om.lc p) s off) vl vh none=some y/\Rl R ρ σ.top (.sv p off k n lo' hi') y:=by
   intro k cs hc hlen hB
   obtain⟨p1,p2,p3,_,_⟩:=lQ hB
   refine⟨_,?_,by unfold Rl;exact⟨s,h1,hB,rfl⟩⟩
   unfold dI
   rw[qc ha];dsimp only
   rw[z1,z2,D9 b1 b2 hB,hc]
   simp only[Option.bind_some,Nat.mul_one]
   rw[if_pos hlen,if_neg (by omega)]
  split at h
  ·rename_i ss hl'
   obtain⟨s',h3,h4⟩:=him.rd hl'
   rw[h1] at h3;cases h3
   split at h
   ·rename_i pre k n' v' post hsp
    obtain⟨hb,h⟩:=aH h
    have:=aJ hb;subst this
    cases h
    obtain⟨e3,hw⟩:=je hsp
    intro hc
    exact fin k _ h4 (by rw[bD,e3,kK,hw,tH];show off+n'<=off+(n'+_);omega) hc
   ·cases h
  ·rename_i cs hl'
   obtain⟨s',vs,h3,h4,h5⟩:=him.rd hl'
   rw[h1] at h3;cases h3
   split at h
   ·rename_i k _ _ _
    obtain⟨hb,h⟩:=aH h
    cases h
    intro hc
    exact fin k _ h4 (by rw[h5.length];exact QJ hb) hc
   ·cases h
  ·cases h
 ·rename_i cs off n e e1 e2 ha
  have b1:=kF e1 hl hln
  have b2:=kF e2 hh hhn
  obtain⟨hb,h⟩:=aH h
  rw[iP] at hb
  obtain⟨z1,z2⟩:=kJ hb.1
  have hle:=QJ hb.2
  split at h
  ·rename_i k _ _ _
   split at h
   ·rename_i l hu
    cases h
    obtain⟨vs,rfl,hr⟩:=hx.gy
    have hv:=tq hu hr
    have hlen:=hr.length
    have hsb:svB n none none=true:=rfl
    refine⟨.lst .sh (((l.drop off).take n).map (V.int k)),?_,by unfold Rl;exact⟨.sh,rfl,trivial⟩⟩
    unfold dI
    rw[qc ha];dsimp only
    rw[z1,z2,D9 b1 b2 hsb]
    simp only[Option.bind_some,Nat.mul_one]
    have hn:off+n<=vs.length:=by rw[hlen];exact hle
    have e0:(loI none).toNat=0:=rfl
    have yC:(hiI n none).toNat=n:=by simp[hiI]
    rw[if_pos ⟨hn,fun _=>⟨trivial,by rw[hv];unfold oneCells;rw[List.all_map];exact QK.2 fun _ _=>rfl⟩⟩,e0,yC]
    have hl2:(List.take n (List.drop off l)).length=n:=by rw[hv,Qy] at hn;rw[QE,Q9];omega
    have:=xW k ((l.drop off).take n) ((l.drop off).drop n|>.map (V.int k))
    rw[<-Rh,Rt,hl2] at this
    rw[hv,Nat.sub_zero,Nat.add_zero,<-List.map_drop,this]
   ·cases h
  ·cases h
 ·cases h
end
end Aq
end
