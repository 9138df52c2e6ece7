/- Part of the proof of a law. -/
import Derived.Test.YteniejlbjfigdaaGreatDoorV10
set_option linter.all false
set_option linter.unusedSimpArgs false
set_option linter.unusedSectionVars false
section
namespace Aq
open Go
set_option linter.unusedSectionVars false
set_option linter.unusedVariables false
section
variable {R:jB} {E:Env}
variable {ρ:aS} {top:Nat→Nat} {b:Nat} {st:MS R.T} {fr:Fr} {σ:ah}
theorem VK {n:Nat} {f:Nat} (a b:List V):aQ (n+2) σ (.fn (.func f) a b)=(a.mapM (aQ (n+1) σ)).bind fun a=>(b.mapM (aQ (n+1) σ)).map fun b=>.fn (.func f) a b:=by
 by_cases hp:aA (.fn (.func f) a b)=true
 ·rw[jQ hp]
  have:∀cs:List V,bf cs=true→cs.mapM (aQ (n+1) σ)=some cs:=by
   intro cs
   induction cs with
   |nil=>intro _;rfl
   |cons a l ih=>
    intro h
    simp only[bf,Bool.and_eq_true] at h
    rw[List.mapM_cons,jQ h.1,ih h.2];rfl
  simp only[aA,Bool.and_eq_true] at hp
  rw[this a hp.1,this b hp.2];rfl
 ·conv=>lhs;unfold aQ
  simp only[hp,if_false,Bool.false_eq_true]
theorem acI {n:Nat} {off:Nat} (cs:List V):aQ (n+2) σ (.aM cs off)=(cs.mapM (aQ (n+1) σ)).map (.aM · off):=by
 by_cases hp:aA (.aM cs off)=true
 ·rw[jQ hp]
  have:∀cs:List V,bf cs=true→cs.mapM (aQ (n+1) σ)=some cs:=by
   intro cs
   induction cs with
   |nil=>intro _;rfl
   |cons a l ih=>
    intro h
    simp only[bf,Bool.and_eq_true] at h
    rw[List.mapM_cons,jQ h.1,ih h.2];rfl
  rw[this cs (by simpa [aA] using hp)];rfl
 ·conv=>lhs;unfold aQ
  simp only[hp,if_false,Bool.false_eq_true]
variable (hR:oh R)
include hR
theorem VL {k e:Ty} (m:List (Den R.T k×Den R.T e)):aA (.dD (m.map fun p=>aD R k p.1) (m.map fun p=>aD R e p.2))=true:=by
 simp only[aA,Bool.and_eq_true]
 have h1:∀m:List (Den R.T k×Den R.T e),bf (m.map fun p=>aD R k p.1)=true∧bf (m.map fun p=>aD R e p.2)=true:=by
  intro m
  induction m with
  |nil=>exact⟨rfl,rfl⟩
  |cons p m ih=>exact⟨by simp[bf,ou hR,ih.1],by simp[bf,ou hR,ih.2]⟩
 exact h1 m
theorem acJ:∀(t:Ty) (x:Den R.T t) (v:V),nJ t=true→Rl R ρ top (xH R .any t x) v→∀n σ,aQ (n+2) σ v=some (aD R t x)
 |.int k,x,v,_,h,n,σ=>by rw[Rl.gL (R:=R) h];exact UF (n+1) _ _
 |.bool,x,v,_,h,n,σ=>by rw[Rl.qw (R:=R) h];exact UG (n+1) _
 |.str,x,v,_,h,n,σ=>by rw[Rl.mo (R:=R) h];exact UH (n+1) _
 |.slice t,x,v,_,h,n,σ=>by
  obtain⟨c,rfl,_⟩:=Rl.kQ (R:=R) h
  exact uw _ _ (ou hR _)
 |.st n,_,_,h,_,_,_=>by simp[nJ] at h
theorem DV:∀(l:List Ty) (p:mO R.T l) (vs:List V),l.all nJ=true→aB R ρ top (jM R .any l p) vs→∀n σ,vs.mapM (aQ (n+2) σ)=some (encs R l p)
 | [],_,vs,_,h,n,σ=>by rw[aB.gK h];rfl
 | [t],x,vs,hl,h,n,σ=>by
   obtain⟨v,l,rfl,h1,h2⟩:=aB.eO h
   rw[aB.gK h2,List.mapM_cons,acJ hR t x v (by simpa using hl) h1];rfl
 |t::u::l,p,vs,hl,h,n,σ=>by
  rw[List.all_cons,Bool.and_eq_true] at hl
  obtain⟨v,ws,rfl,h1,h2⟩:=aB.eO h
  rw[List.mapM_cons,acJ hR t p.1 v hl.1 h1,DV (u::l) p.2 ws hl.2 h2];rfl
theorem anM (t:Ty) (x:Den R.T t) (vs:List V) (h:aB R ρ top (gV R .any t x).cells vs) (n:Nat) (σ:ah):vs.mapM (aQ (n+2) σ)=some (aD R t x).cells:=by
 cases t with
 |st k=>
  have he:aD R (.st k) x= .agg (encs R (R.lf k) (R.of k x)):=hR.enc k x
  rw[he]
  exact DV hR _ _ vs (hR.leaf k) h n σ
 |int k=>exact DV hR [.int k] x vs rfl h n σ
 |bool=>exact DV hR [.bool] x vs rfl h n σ
 |str=>exact DV hR [.str] x vs rfl h n σ
 |slice t=>exact DV hR [.slice t] x vs rfl h n σ
theorem acK {t:Ty} {ρ:aS} {top:Nat→Nat}:∀(l:List (Den R.T t)) (cs:List V),aB R ρ top (l.flatMap fun x=>(gV R .any t x).cells) cs→∀(n:Nat) (σ:ah),cs.mapM (aQ (n+2) σ)=some ((l.map (aD R t)).flatMap V.cells)
 | [],cs,h,n,σ=>by rw[aB.gK h];rfl
 |x::l,cs,h,n,σ=>by
  rw[List.flatMap_cons] at h
  obtain⟨a,b,rfl,h1,h2⟩:=h.split
  rw[List.mapM_append,acK l b h2 n σ,List.map_cons,List.flatMap_cons]
  have:a.mapM (aQ (n+2) σ)=some (aD R t x).cells:=anM hR t x a h1 n σ
  rw[this];rfl
theorem anN {t:Ty} (l:List (Den R.T t)):chunks (iQ t) (dB R t) l.length ((l.map (aD R t)).flatMap V.cells)=l.map (aD R t):=by
 have:=VE (iQ t) (dB R t) (l.map (aD R t)) (fun v hv=>by
  obtain⟨x,_,rfl⟩:=List.mem_map.1 hv
  exact(DR hR t x).1)
 rw[List.length_map] at this
 rw[this,List.map_map]
 refine List.map_congr_left fun x _=> ?_
 show (if iQ t then V.agg (aD R t x).cells else (aD R t x).cells.headD ay)=aD R t x
 cases hs:iQ t
 ·cases t<;>first|rfl| (simp[iQ] at hs;done)
 ·obtain⟨c,hc⟩:=(DR hR t x).2.2.2.1 hs
  rw[hc];rfl
theorem anO {t:Ty} (l:List (Den R.T t)):(iQ t||dB R t==1&& bN ((l.map (aD R t)).flatMap V.cells))=true:=by
 cases hs:iQ t
 ·have h1:dB R t=1:=by cases t<;>first|rfl| (simp[iQ] at hs;done)
  rw[h1]
  have:bN ((l.map (aD R t)).flatMap V.cells)=true:=by
   have:=VF hR l
   unfold bN at this⊢
   rw[List.all_flatMap]
   exact this
  rw[this];rfl
 ·rfl
omit hR in
theorem acL:∀(a b:List V),bf (a++b)=(bf a&& bf b)
 | [],b=>by simp[bf]
 |x::a,b=>by simp only[List.cons_append,bf];rw[acL a b,Bool.and_assoc]
omit hR in
theorem Nn (k:IntKind):∀l:List Int,bf (l.map (V.int k))=true
 | []=>by simp[bf]
 |x::l=>by simp only[List.map_cons,bf,UJ,Bool.true_and];exact Nn k l
omit hR in
theorem VN:∀ss:List Sg,bf (bW ss)=true
 | []=>by simp[bW,bf]
 |.i k x::ss=>by show bf (V.int k x::bW ss)=true;unfold bf;rw[VN ss];simp[aA]
 |.a k n v::ss=>by
  show bf (v.l.map (V.int k)++bW ss)=true
  rw[acL,Nn,VN ss];rfl
omit hR in
theorem VO (ss:List Sg):aA (.agg (bW ss))=true:=by unfold aA;exact VN ss
omit hR in
theorem acM:∀(a b:List V),jw (a++b)=(jw a&& jw b)
 | [],b=>by simp[jw]
 |x::a,b=>by simp only[List.cons_append,jw];rw[acM a b,Bool.and_assoc]
omit hR in
theorem acN (k:IntKind):∀l:List Int,jw (l.map (V.int k))=true
 | []=>by simp[jw]
 |x::l=>by simp only[List.map_cons,jw,flat,Bool.true_and];exact acN k l
omit hR in
theorem Np:∀ss:List Sg,jw (bW ss)=true
 | []=>by simp[bW,jw]
 |.i k x::ss=>by show jw (V.int k x::bW ss)=true;unfold jw;rw[Np ss];simp[flat]
 |.a k n v::ss=>by
  show jw (v.l.map (V.int k)++bW ss)=true
  rw[acM,acN,Np ss];rfl
omit hR in
theorem anP (ss:List Sg):er (.agg (bW ss))= .agg (bW ss):=by
 have:∀ss:List Sg,(bW ss).map fV=bW ss:=by
  intro ss
  induction ss with
  |nil=>rfl
  |cons s ss ih=>
   cases s with
   |i k x=>show fV (.int k x)::(bW ss).map fV=_;rw[ih];rfl
   |a k n v=>
    show (v.l.map (V.int k)++bW ss).map fV=_
    rw[List.map_append,ih,List.map_map];rfl
 show V.agg ((bW ss).map fV)=_
 rw[this]
omit hR in
theorem pq:∀(a b:List Sg),bW (a++b)=bW a++bW b
 | [],b=>rfl
 |s::a,b=>by show s.vs++bW (a++b)=s.vs++bW a++bW b;rw[pq a b,List.append_assoc]
omit hR in
theorem Sg.len:∀s:Sg,s.vs.length=s.w
 |.i _ _=>rfl
 |.a _ n v=>by show (v.l.map _).length=n;rw[List.length_map,v.h]
omit hR in
theorem iw:∀ss:List Sg,(bW ss).length=jm ss
 | []=>rfl
 |s::ss=>by show (s.vs++bW ss).length=s.w+jm ss;rw[List.length_append,s.len,iw ss]
omit hR in
theorem sU:∀{ss:List Sg} {n:Nat} {a b:List Sg},nY ss n=some (a,b)→ss=a++b∧jm a=n
 |ss,0,a,b,h=>by
  have h':some (([]:List Sg),ss)=some (a,b):=by cases ss<;>exact h
  cases h';exact⟨rfl,rfl⟩
 | [],n+1,a,b,h=>by cases h
 |s::ss,n+1,a,b,h=>by
  unfold nY at h
  obtain⟨h1,h⟩:=d9 h
  split at h
  ·rename_i a' b' h2
   cases h
   obtain⟨e,hw⟩:=sU h2
   have:=Nat.le_of_ble_eq_true h1
   refine⟨by rw[e];rfl, ?_⟩
   show s.w+jm a'=n+1
   omega
  ·cases h
omit hR in
theorem VP {ρ:aS} {top:Nat→Nat} {k:IntKind}:∀{cs:List (TV R.T)} {xs:List Int} {vs:List V},zT k cs=some xs→aB R ρ top cs vs→vs=xs.map (V.int k)
 | [],xs,vs,h,hr=>by cases h;exact hr.gK
 |c::cs,xs,vs,h,hr=>by
  obtain⟨v,ws,rfl,h1,h2⟩:=hr.eO
  cases c<;>first| (exact absurd (show none=some xs from h) (by simp))|skip
  rename_i k' x
  have h':(if k'=k then (match zT k cs with
   |some xs=>some (x::xs)
   |none=>none) else none)=some xs:=h
  split at h'
  ·rename_i e;subst e
   split at h'
   ·rename_i ys hy
    cases h'
    rw[h1.gL,VP hy h2];rfl
   ·cases h'
  ·cases h'
omit hR in
theorem acO (k:IntKind):∀(l:List Int) (rest:List V),chunks false 1 l.length (l.map (V.int k)++rest)=l.map (V.int k)
 | [],rest=>rfl
 |x::l,rest=>by
  show V.int k x::chunks false 1 l.length (l.map (V.int k)++rest)=_
  rw[acO k l rest];rfl
omit hR in
theorem Af {n:Nat} {lo hi:Option Int} (h:nH n lo hi=true):(dQ lo).toNat≤(gJ n hi).toNat∧(gJ n hi).toNat≤n∧((dQ lo).toNat< (gJ n hi).toNat∨(dQ lo).toNat=0)∧0≤dQ lo∧dQ lo≤gJ n hi:=by
 cases lo<;>cases hi<;>simp only[nH,dQ,gJ,decide_eq_true_eq] at h⊢ <;>omega
omit hR in
theorem anQ {α:Type} {n:Nat} {lo hi:Option Int} (h:nH n lo hi=true) {l:List α} (hl:l.length=n):CQ l lo hi=(l.drop (dQ lo).toNat).take ((gJ n hi).toNat-(dQ lo).toNat):=by
 obtain⟨h1,h2,_⟩:=Af h
 cases lo<;>cases hi<;>simp only[CQ,dQ,gJ] at*
 ·simp[hl];rw[List.take_of_length_le (by omega)]
 ·simp
 ·rw[List.take_of_length_le];rw[List.length_drop];omega
 ·rw[List.take_drop];congr 1;congr 1;omega
theorem acP (hi:aJ ρ b st fr σ) {o off n:Nat} {k:IntKind} {lo hi':Option Int} {l:List Int} (h:MC st o off k n lo hi'=some l) {s:Nat} (hs:ρ.ob o=some s) (hB:nH n lo hi'=true):
 ∃cs,σ.bY (1,o) s=some cs∧off+n≤cs.length∧(cs.drop (off+(dQ lo).toNat)).take ((gJ n hi').toNat-(dQ lo).toNat)=l.map (V.int k)∧l.length=(gJ n hi').toNat-(dQ lo).toNat:=by
 obtain⟨p1,p2,p3,_,_⟩:=Af hB
 have fin:∀(cs:List V) (xs:List Int),xs.length=n→(cs.drop off).take n=xs.map (V.int k)→off+n≤cs.length→l=CQ xs lo hi'→(cs.drop (off+(dQ lo).toNat)).take ((gJ n hi').toNat-(dQ lo).toNat)=l.map (V.int k)∧l.length=(gJ n hi').toNat-(dQ lo).toNat:=by
  intro cs xs hx hc hle hl
  rw[anQ hB hx] at hl
  subst hl
  constructor
  ·rw[List.map_take,List.map_drop,←hc,List.drop_take,List.take_take,List.drop_drop]
   congr 1
   omega
  ·rw[List.length_take,List.length_drop];omega
 unfold MC at h
 split at h
 ·rename_i ss hl
  obtain⟨s',h1,h2⟩:=hi.rd hl
  rw[hs] at h1;cases h1
  split at h
  ·rename_i pre k' n' v post hsp
   by_cases e:k'=k
   ·subst e
    rw[if_pos rfl] at h
    cases e2:Nat.beq n' n
    ·rw[e2] at h;cases h
    rw[e2] at h
    have e2:=eF e2
    subst e2
    obtain rfl:CQ v.l lo hi'=l:=Option.some.inj h
    obtain⟨e3,hw⟩:=sU hsp
    refine⟨_,h2, ?_, ?_⟩
    ·rw[e3,iw]
     have:∀a b:List Sg,jm (a++b)=jm a+jm b:=fun a b=>by rw[←iw,pq,List.length_append,iw,iw]
     rw[this,hw]
     show off+n'≤off+(n'+jm post);omega
    ·refine fin _ v.l v.h ?_ ?_ rfl
     ·rw[e3,pq,List.drop_append_of_le_length (by rw[iw,hw];exact Nat.le_refl _),List.drop_of_length_le (by rw[iw,hw];exact Nat.le_refl _),List.nil_append]
      show ((v.l.map (V.int k'))++bW post).take n'=_
      rw[List.take_append_of_le_length (by rw[List.length_map,v.h];exact Nat.le_refl _),List.take_of_length_le (by rw[List.length_map,v.h];exact Nat.le_refl _)]
     ·rw[e3,pq,List.length_append,iw,hw,iw]
      show off+n'≤off+(n'+jm post);omega
   ·rw[if_neg e] at h;cases h
  ·cases h
 ·rename_i cs hl
  obtain⟨s',vs,h1,h2,h3⟩:=hi.rd hl
  rw[hs] at h1;cases h1
  obtain⟨hb,h⟩:=d9 h
  have hb:=Nat.le_of_ble_eq_true hb
  split at h
  ·rename_i xs hx
   cases h
   have hv:=VP hx ((h3.drop off).take n)
   have hlen:off+n≤vs.length:=by rw[h3.length];exact hb
   refine⟨vs,h2,hlen,fin vs xs ?_ hv hlen rfl⟩
   have:=congrArg List.length hv
   rw[List.length_map,List.length_take,List.length_drop] at this
   omega
  ·cases h
 ·cases h
theorem acQ (hi:aJ ρ b st fr σ) {x:TV R.T} {v:V} (h:Rl R ρ σ.top x v):∃v',Rl R ρ σ.top (uz st x) v'∧∀n,aQ (n+3) σ v=aQ (n+3) σ v':=by
 by_cases hx:∃o off,x= .ref o off
 ·obtain⟨o,off,rfl⟩:=hx
  unfold uz
  dsimp only
  split
  ·rename_i cs hl
   obtain⟨s,h1,rfl⟩:=h.oo
   obtain⟨s',l,h2,h3,h4⟩:=hi.rd hl
   rw[h1] at h2;cases h2
   refine⟨.aM l off,by unfold Rl;exact⟨l,rfl,h4⟩,fun n=> ?_⟩
   rw[acI]
   conv=>lhs;unfold aQ
   simp only[aA,Bool.false_eq_true,if_false,h3,Option.bind_some]
  ·exact⟨v,h,fun _=>rfl⟩
 ·by_cases hy:∃o,x= .cK o
  ·obtain⟨o,rfl⟩:=hy
   unfold uz
   dsimp only
   split
   ·rename_i k e m hl
    obtain⟨s,h1,rfl⟩:=h.vV
    obtain⟨s',h2,h3⟩:=hi.rd hl
    rw[h1] at h2;cases h2
    refine⟨.dD (m.map fun p=>aD R k p.1) (m.map fun p=>aD R e p.2),by unfold Rl;rfl,fun n=> ?_⟩
    have hp:=VL hR m
    rw[jQ hp]
    have hp':=hp
    simp only[aA,Bool.and_eq_true] at hp'
    have key:∀cs:List V,bf cs=true→cs.mapM (aQ (n+2) σ)=some cs:=by
     intro cs
     induction cs with
     |nil=>intro _;rfl
     |cons a l ih=>
      intro h
      simp only[bf,Bool.and_eq_true] at h
      rw[List.mapM_cons,jQ h.1,ih h.2];rfl
    conv=>lhs;unfold aQ
    simp only[aA,Bool.false_eq_true,if_false,h3,Option.bind_some,key _ hp'.1,key _ hp'.2,Option.map_some]
   ·exact⟨v,h,fun _=>rfl⟩
  ·by_cases hz:∃o t,x= .vw o t
   ·obtain⟨o,t,rfl⟩:=hz
    unfold uz
    dsimp only
    split
    ·rename_i t' l hl
     split
     ·rename_i e
      subst e
      have hO:=hi.rd hl
      refine⟨.aj .sh (l.map (aD R t')),by unfold Rl;exact⟨.sh,rfl,rfl⟩,fun n=> ?_⟩
      rw[uw _ _ (ou hR t')]
      rcases h.Dw with ⟨s,h1,rfl⟩| ⟨h1,h2⟩
      ·rcases hO.2 with h2| ⟨s',cs,h2,h3,h4⟩
       ·rw[h1] at h2;exact absurd h2.2 (by simp)
       ·rw[h1] at h2;cases h2
        have hlc:cs.length=l.length*dB R t':=by rw[h4.length,Nl]
        have hlen:l.length=ρ.ln o:=hO.1
        conv=>lhs;unfold aQ
        simp only[aA,Bool.false_eq_true,if_false,h3,Option.bind_some,Nat.zero_add,List.drop_zero]
        rw[if_pos (by rw[hlc,hlen];exact Nat.le_refl _),List.take_of_length_le (by rw[hlc,hlen];exact Nat.le_refl _),acK hR l cs h4 n σ]
        simp only[Option.bind_some]
        rw[←hlen,anN hR l,anO hR l,if_pos rfl]
        rfl
      ·have hl0:l=[]:=List.eq_nil_of_length_eq_zero (hO.1.trans h1)
       subst hl0
       rcases h2 with rfl|rfl<;>exact uw _ ([]:List (Den R.T t')) (ou hR t')
     ·exact⟨v,h,fun _=>rfl⟩
    ·exact⟨v,h,fun _=>rfl⟩
   ·by_cases hz2:∃o off k n lo hi,x= .sv o off k n lo hi
    ·obtain⟨o,off,k,n,lo,hi',rfl⟩:=hz2
     unfold uz
     dsimp only
     split
     ·rename_i l hl
      obtain⟨s,h1,hB,rfl⟩:=h.xW
      obtain⟨cs,c1,c2,c3,c4⟩:=acP hR hi hl h1 hB
      obtain⟨p1,p2,p3,_,_⟩:=Af hB
      refine⟨.aj .sh (l.map (V.int k)),by unfold Rl;exact⟨.sh,rfl,rfl⟩,fun m=> ?_⟩
      have hcl:aQ (m+3) σ (.aj .sh (l.map (V.int k)))=some (.aj .sh (l.map (V.int k))):=jQ (by unfold aA;exact Nn k l)
      rw[hcl]
      conv=>lhs;unfold aQ
      simp only[aA,Bool.false_eq_true,if_false,c1,Option.bind_some,Nat.mul_one]
      rw[if_pos (by omega),c3]
      have key:∀cs:List V,bf cs=true→cs.mapM (aQ (m+2) σ)=some cs:=by
       intro cs
       induction cs with
       |nil=>intro _;rfl
       |cons a l ih=>
        intro h
        simp only[bf,Bool.and_eq_true] at h
        rw[List.mapM_cons,jQ h.1,ih h.2];rfl
      rw[key _ (Nn k l)]
      simp only[Option.bind_some]
      have hone:bN (l.map (V.int k))=true:=by unfold bN;rw[List.all_map];simp[oneCell]
      rw[hone,←c4]
      have:=acO k l []
      rw[List.append_nil] at this
      rw[this];rfl
     ·exact⟨v,h,fun _=>rfl⟩
    ·have:uz st x=x:=by cases x<;>first|rfl|exact absurd ⟨_,_,rfl⟩ hx|exact absurd ⟨_,rfl⟩ hy|exact absurd ⟨_,_,rfl⟩ hz|exact absurd ⟨_,_,_,_,_,_,rfl⟩ hz2
     rw[this];exact⟨v,h,fun _=>rfl⟩
theorem Nq (hi:aJ ρ b st fr σ):∀{x:List (TV R.T)} {v:List V},aB R ρ σ.top x v→∃v',aB R ρ σ.top (GI st x) v'∧∀n,v.mapM (aQ (n+3) σ)=v'.mapM (aQ (n+3) σ)
 | [],v,h=>by rw[h.gK];exact⟨[],rfl,fun _=>rfl⟩
 |x::xs,v,h=>by
  obtain⟨w,ws,rfl,h1,h2⟩:=h.eO
  obtain⟨w',a1,a2⟩:=acQ hR hi h1
  obtain⟨ws',b1,b2⟩:=Nq hi h2
  exact⟨w'::ws',.cons' a1 b1,fun n=>by rw[List.mapM_cons,List.mapM_cons,a2,b2]⟩
theorem anR (hi:aJ ρ b st fr σ) {x:TV R.T} {v:V} (h:Rl R ρ σ.top x v):∃v',Rl R ρ σ.top (zU st x) v'∧∀n,aQ (n+4) σ v=aQ (n+4) σ v':=by
 by_cases hx:∃f a b,x= .fn f a b
 ·obtain⟨f,a,b,rfl⟩:=hx
  obtain⟨a',b',rfl,ha,hb⟩:=h.oq
  obtain⟨va,a1,a2⟩:=Nq hR hi ha
  obtain⟨vb,b1,b2⟩:=Nq hR hi hb
  refine⟨.fn (.func f) va vb,⟨va,vb,rfl,a1,b1⟩,fun n=> ?_⟩
  rw[VK,VK,a2,b2]
 ·by_cases hy:∃cs,x= .agg cs
  ·obtain⟨cs,rfl⟩:=hy
   obtain⟨l,rfl,hl⟩:=h.kD
   obtain⟨v',a1,a2⟩:=Nq hR hi hl
   refine⟨.agg v',by unfold zU;unfold Rl;exact⟨v',rfl,a1⟩,fun n=> ?_⟩
   rw[Vp,Vp,a2]
  ·have:zU st x=uz st x:=by cases x<;>first|rfl|exact absurd ⟨_,_,_,rfl⟩ hx|exact absurd ⟨_,rfl⟩ hy
   rw[this]
   obtain⟨v',h1,h2⟩:=acQ hR hi h
   exact⟨v',h1,fun n=>h2 (n+1)⟩
theorem Hq (hi:aJ ρ b st fr σ):∀{x:List (TV R.T)} {v:List V},aB R ρ σ.top x v→∃v',aB R ρ σ.top (nE st x) v'∧∀n,v.mapM (aQ (n+4) σ)=v'.mapM (aQ (n+4) σ)
 | [],v,h=>by rw[h.gK];exact⟨[],rfl,fun _=>rfl⟩
 |x::xs,v,h=>by
  obtain⟨w,ws,rfl,h1,h2⟩:=h.eO
  obtain⟨w',a1,a2⟩:=anR hR hi h1
  obtain⟨ws',b1,b2⟩:=Hq hi h2
  exact⟨w'::ws',.cons' a1 b1,fun n=>by rw[List.mapM_cons,List.mapM_cons,a2,b2]⟩
mutual
theorem acR:∀(k:Sk) (x:qg R.T k) (tv:TV R.T) (v:V),lu k=true→pk R k tv=some x→Rl R ρ top tv v→∀n σ,dep k≤n→aQ n σ v=some (encS R k x)
 |.d t,x,tv,v,_,h,hr,n,σ,hn=>by
  obtain⟨m,rfl⟩:∃m,n=m+3:=⟨n-3,by have:3≤n:=hn;omega⟩
  exact(Vq hR (show nW R t tv=some x from h) hr).2.2.1 m σ
 |.l c t,x,tv,v,_,h,hr,n,σ,hn=>by
  obtain⟨m,rfl⟩:∃m,n=m+3:=⟨n-3,by have:3≤n:=hn;omega⟩
  obtain⟨c',rfl,_⟩:=(ab1 (show MF R c t tv=some x from h) hr).kQ
  exact uw _ _ (ou hR _)
 |.agg l,x,tv,v,hc,h,hr,n,σ,hn=>by
  cases tv<;>first| (exact absurd (show none=some x from h) (by simp))|skip
  rename_i cs
  obtain⟨vs,rfl,hl⟩:=hr.kD
  unfold dep at hn
  obtain⟨m,rfl⟩:∃m,n=m+2:=⟨n-2,by omega⟩
  rw[abq,rF l x cs vs (by unfold lu at hc;exact hc) h hl (m+1) σ (by omega)];rfl
 |.aM l off,x,tv,v,hc,h,hr,n,σ,hn=>by
  cases tv<;>first| (exact absurd (show none=some x from h) (by simp))|skip
  rename_i cs off'
  have h':(bif Nat.beq off' off then iq R l cs else none)=some x:=h
  obtain⟨hb,h'⟩:=d9 h'
  rw[eF hb] at hr
  obtain⟨vs,rfl,hl⟩:=hr.uH
  unfold dep at hn
  obtain⟨m,rfl⟩:∃m,n=m+2:=⟨n-2,by omega⟩
  rw[acI,rF l x cs vs (by unfold lu at hc;exact hc) h' hl (m+1) σ (by omega)];rfl
 |.dD k e,x,tv,v,_,h,hr,n,σ,hn=>by
  cases tv<;>first| (exact absurd (show none=some x from h) (by simp))|skip
  rename_i k' e' m
  obtain⟨e1,e2,e3⟩:=Vu (show CV R m=some x from h)
  subst e1;subst e2;cases e3
  obtain⟨m',rfl⟩:∃m,n=m+3:=⟨n-3,by have:3≤n:=hn;omega⟩
  rw[hr.Dv]
  exact jQ (VL hR m)
 |.fn f a b,x,tv,v,hc,h,hr,n,σ,hn=>by
  cases tv<;>first| (exact absurd (show none=some x from h) (by simp))|skip
  rename_i f' a' b'
  have h':(bif Nat.beq f' f then (match iq R a a' with
   |some x=>match iq R b b' with
    |some y=>some (x,y)
    |none=>none
   |none=>none) else none)=some x:=h
  obtain⟨hb,h'⟩:=d9 h'
  rw[eF hb] at hr
  obtain⟨va,vb,rfl,ha,hbb⟩:=hr.oq
  unfold lu at hc
  rw[Bool.and_eq_true] at hc
  unfold dep at hn
  obtain⟨m,rfl⟩:∃m,n=m+2:=⟨n-2,by omega⟩
  cases h1:iq R a a' with
  |none=>simp only[h1] at h';cases h'
  |some y=>
   cases h2:iq R b b' with
   |none=>simp only[h1,h2] at h';cases h'
   |some z=>
    simp only[h1,h2] at h';cases h'
    rw[VK,rF a y a' va hc.1 h1 ha (m+1) σ (by omega),rF b z b' vb hc.2 h2 hbb (m+1) σ (by omega)];rfl
 |.ref _ _,_,_,_,h,_,_,_,_,_=>by simp[lu] at h
 |.cK _,_,_,_,h,_,_,_,_,_=>by simp[lu] at h
 |.dK,_,_,_,h,_,_,_,_,_=>by simp[lu] at h
 |.vw _ _,_,_,_,h,_,_,_,_,_=>by simp[lu] at h
 |.sg l,x,tv,v,_,h,hr,n,σ,hn=>by
  cases tv<;>first| (exact absurd (show none=some x from h) (by simp))|skip
  rename_i ss
  obtain⟨m,rfl⟩:∃m,n=m+1:=⟨n-1,by have:3≤n:=hn;omega⟩
  rw[hr.G8]
  show _=some (V.agg (bW (sN l x)))
  rw[Na (show vR l ss=some x from h)]
  exact jQ (VO ss)
 |.undef,_,_,_,h,_,_,_,_,_=>by simp[lu] at h
theorem rF:∀(l:List Sk) (x:ak R.T l) (cs:List (TV R.T)) (vs:List V),jg l=true→iq R l cs=some x→aB R ρ top cs vs→∀n σ,nZ l≤n→vs.mapM (aQ n σ)=some (bG R l x)
 | [],x,cs,vs,_,h,hr,n,σ,hn=>by
   cases cs with
   |nil=>rw[hr.gK];rfl
   |cons c cs=>exact absurd (show none=some x from h) (by simp)
 | [k],x,cs,vs,hc,h,hr,n,σ,hn=>by
   unfold jg at hc
   rw[Bool.and_eq_true] at hc
   unfold nZ at hn
   cases cs with
   |nil=>exact absurd (show none=some x from h) (by simp)
   |cons c cs=>
    cases cs with
    |nil=>
     obtain⟨v,l,rfl,h1,h2⟩:=hr.eO
     rw[h2.gK,List.mapM_cons,acR k x c v hc.1 h h1 n σ (by omega)];rfl
    |cons c' cs=>exact absurd (show none=some x from h) (by simp)
 |k::k'::l,x,cs,vs,hc,h,hr,n,σ,hn=>by
  unfold jg at hc
  rw[Bool.and_eq_true] at hc
  unfold nZ at hn
  cases cs with
  |nil=>exact absurd (show none=some x from h) (by simp)
  |cons c cs=>
   have h':(match pk R k c with
    |some x=>match iq R (k'::l) cs with
     |some p=>some (x,p)
     |none=>none
    |none=>none)=some x:=h
   obtain⟨v,vs,rfl,h1,h2⟩:=hr.eO
   cases hu:pk R k c with
   |none=>simp only[hu] at h';cases h'
   |some y=>
    cases hs:iq R (k'::l) cs with
    |none=>simp only[hu,hs] at h';cases h'
    |some q=>
     simp only[hu,hs] at h'
     obtain rfl:=Option.some.inj h'
     rw[List.mapM_cons,acR k y c v hc.1 hu h1 n σ (by omega),rF (k'::l) q cs vs hc.2 hs h2 n σ (by omega)];rfl
end
mutual
theorem VQ:∀(tv:TV R.T) (v:V),kr tv=true→Rl R ρ top tv v→aA v=true
 |.int _ _,v,_,h=>by rw[h.gL];exact UJ _ _
 |.bool _,v,_,h=>by rw[h.qw];exact UK _
 |.iM _,v,_,h=>by rw[h.sS];exact UK _
 |.str _,v,_,h=>by rw[h.mo];exact abh _
 |.fU,v,_,h=>by unfold Rl at h;subst h;simp[aA]
 |.fB,v,_,h=>by unfold Rl at h;subst h;simp[aA]
 |.eY,v,_,h=>by unfold Rl at h;subst h;simp[aA]
 |.iA,v,_,h=>by unfold Rl at h;subst h;simp[aA]
 |.aj c t l,v,hs,h=>by
  cases c<;>simp only[kr,Bool.false_eq_true] at hs
  obtain⟨c',rfl,hc⟩:=h.kQ
  obtain rfl:c'= .sh:=hc
  exact Gz (ou hR t) l
 |.agg cs,v,hs,h=>by
  obtain⟨l,rfl,hl⟩:=h.kD
  unfold aA;exact yh cs l (by unfold kr at hs;exact hs) hl
 |.bJ cs,v,hs,h=>by
  obtain⟨l,rfl,hl⟩:=h.M5
  unfold aA;exact yh cs l (by unfold kr at hs;exact hs) hl
 |.dD k e m,v,_,h=>by rw[h.Dv];exact VL hR m
 |.fn f a b,v,hs,h=>by
  obtain⟨a',b',rfl,ha,hb⟩:=h.oq
  unfold kr at hs
  rw[Bool.and_eq_true] at hs
  unfold aA;rw[yh a a' hs.1 ha,yh b b' hs.2 hb];rfl
 |.dK,_,hs,_=>by simp[kr] at hs
 |.ref _ _,_,hs,_=>by simp[kr] at hs
 |.aM cs off,v,hs,h=>by
  obtain⟨l,rfl,hl⟩:=h.uH
  unfold aA;exact yh cs l (by unfold kr at hs;exact hs) hl
 |.vw _ _,_,hs,_=>by simp[kr] at hs
 |.kZ _ _ _ _,_,hs,_=>by simp[kr] at hs
 |.sg ss,v,_,h=>by rw[h.G8];exact VO ss
 |.sv _ _ _ _ _ _,_,hs,_=>by simp[kr] at hs
 |.sel _ _ _ _ _ _,_,hs,_=>by simp[kr] at hs
 |.qW _ _ _ _,_,hs,_=>by simp[kr] at hs
 |.cK _,_,hs,_=>by simp[kr] at hs
 |.opt _ _ _,_,hs,_=>by simp[kr] at hs
 |.undef,_,hs,_=>by simp[kr] at hs
 |.gone,_,hs,_=>by simp[kr] at hs
theorem yh:∀(l:List (TV R.T)) (vs:List V),oW l=true→aB R ρ top l vs→bf vs=true
 | [],vs,_,h=>by rw[h.gK];rfl
 |x::l,vs,hs,h=>by
  obtain⟨v,ws,rfl,h1,h2⟩:=h.eO
  unfold oW at hs
  rw[Bool.and_eq_true] at hs
  unfold bf;rw[VQ x v hs.1 h1,yh l ws hs.2 h2];rfl
end
theorem acS {x:TV R.T} {v:V} (hs:GJ x=true) (h:Rl R ρ top x v):aA (fV v)=true:=by
 have key:kr x=true→aA (fV v)=true:=fun hs=>by
  have:=VQ hR x v hs h
  cases v with
  |aj c l=>cases c<;>simp[aA] at this<;>simpa [fV,aA] using this
  |_=>exact this
 cases x<;>first|exact key hs|skip
 ·rw[h.o8];simp[fV,aA,bf]
 ·obtain⟨c',rfl,hc⟩:=h.kQ
  exact Gz (ou hR _) _
theorem acT:∀{x:List (TV R.T)} {v:List V},ME x=true→aB R ρ top x v→bf (v.map fV)=true
 | [],vs,_,h=>by rw[h.gK];rfl
 |x::l,vs,hs,h=>by
  obtain⟨v,ws,rfl,h1,h2⟩:=h.eO
  unfold ME at hs
  rw[Bool.and_eq_true] at hs
  rw[List.map_cons];unfold bf;rw[acS hR hs.1 h1,acT hs.2 h2];rfl
theorem anS {x:TV R.T} {v:V} (hs:clV x=true) (h:Rl R ρ top x v):aA (er v)=true:=by
 by_cases hx:∃cs,x= .agg cs
 ·obtain⟨cs,rfl⟩:=hx
  obtain⟨l,rfl,hl⟩:=h.kD
  show aA (.agg (l.map fV))=true
  unfold aA;exact acT hR hs hl
 ·by_cases hy:∃ss,x= .sg ss
  ·obtain⟨ss,rfl⟩:=hy
   rw[h.G8,anP];exact VO ss
  have hs':GJ x=true:=by cases x<;>first|exact hs|exact absurd ⟨_,rfl⟩ hx
  have h1:=acS hR hs' h
  have hne:∀cs,v≠ .agg cs:=by
   rintro cs rfl
   cases x<;>first|exact hy ⟨_,rfl⟩| (unfold Rl at h;simp at h;done)|exact hx ⟨_,rfl⟩| (simp[GJ,kr] at hs';done)
  rw[amS hne];exact h1
theorem Hr:∀{x:List (TV R.T)} {v:List V},xK x=true→aB R ρ top x v→v.all (fun a=>aA (er a))=true
 | [],vs,_,h=>by rw[h.gK];rfl
 |x::l,vs,hs,h=>by
  obtain⟨v,ws,rfl,h1,h2⟩:=h.eO
  unfold xK at hs
  rw[Bool.and_eq_true] at hs
  rw[List.all_cons,anS hR hs.1 h1,Hr hs.2 h2];rfl
theorem VR:∀(l:List Sk) (x:ak R.T l),CS l=true→jw (bG R l x)=true
 | [],x,_=>rfl
 | [k],x,h=>by
   cases k<;>simp only[CS,Bool.and_true,Bool.false_eq_true] at h
   ·rename_i t
    show (flat (aD R t x)&& jw [])=true
    cases t<;>simp only[UY,Bool.false_eq_true] at h<;>rfl
   ·rename_i ks
    show (flat (.agg (bW (sN ks x)))&& jw [])=true
    unfold flat;rw[Np];rfl
 |k::k'::l,x,h=>by
  cases k<;>simp only[CS,Bool.false_eq_true] at h
  ·rename_i t
   rw[Bool.and_eq_true] at h
   show (flat (aD R t x.1)&& jw (bG R (k'::l) x.2))=true
   rw[VR (k'::l) x.2 h.2]
   have:=h.1
   cases t<;>simp only[UY,Bool.false_eq_true] at this<;>rfl
  ·rename_i ks
   show (flat (.agg (bW (sN ks x.1)))&& jw (bG R (k'::l) x.2))=true
   rw[VR (k'::l) x.2 h]
   unfold flat;rw[Np];rfl
omit hR in
theorem anT {vs:List V} (h:jw vs=true):flat (ku vs)=true:=by
 match vs with
 | []=>simp[ku,flat,jw]
 | [v]=>simp only[jw,Bool.and_true] at h;exact h
 |v::w::vs=>show flat (.bJ _)=true;unfold flat;exact h
mutual
theorem acU:∀(k:Sk) (x:qg R.T k),lu k=true→Rl R ρ top (up R .sh k x) (encS R k x)
 |.d t,x,_=>abJ hR t x
 |.l c t,x,h=>by
  refine⟨.sh,rfl, ?_⟩
  cases c<;>first|trivial|rfl| (simp[lu] at h;done)
 |.agg l,x,h=>⟨_,rfl,wm l x (by unfold lu at h;exact h)⟩
 |.aM l off,x,h=>⟨_,rfl,wm l x (by unfold lu at h;exact h)⟩
 |.dD k e,x,_=>rfl
 |.fn f a b,x,h=>by
  unfold lu at h
  rw[Bool.and_eq_true] at h
  exact⟨_,_,rfl,wm a x.1 h.1,wm b x.2 h.2⟩
 |.ref _ _,_,h=>by simp[lu] at h
 |.cK _,_,h=>by simp[lu] at h
 |.dK,_,h=>by simp[lu] at h
 |.vw _ _,_,h=>by simp[lu] at h
 |.sg l,x,_=>rfl
 |.undef,_,h=>by simp[lu] at h
theorem wm:∀(l:List Sk) (x:ak R.T l),jg l=true→aB R ρ top (kM R .sh l x) (bG R l x)
 | [],_,_=>rfl
 | [k],x,h=>by
   unfold jg at h
   rw[Bool.and_eq_true] at h
   exact .cons' (acU k x h.1) rfl
 |k::k'::l,x,h=>by
  unfold jg at h
  rw[Bool.and_eq_true] at h
  exact .cons' (acU k x.1 h.1) (wm (k'::l) x.2 h.2)
end
omit hR in
theorem anU {x:List (TV R.T)} {v:List V} (h:aB R ρ top x v):Rl R ρ top (abA R x) (ku v):=by
 match x,h with
 | [],h=>rw[h.gK];exact⟨[],rfl,rfl⟩
 | [a],h=>
   obtain⟨v,vs,rfl,h1,h2⟩:=h.eO
   rw[h2.gK];exact h1
 |a::b::l,h=>
  obtain⟨v,vs,rfl,h1,h2⟩:=h.eO
  obtain⟨w,ws,rfl,h3,h4⟩:=h2.eO
  exact⟨_,rfl,.cons' h1 (.cons' h3 h4)⟩
def acV:List V→List V
 |_::l=>.aj .nil []::l
 | []=>[]
def aO (E:Env) (F:Nat→List (FR R)):Prop:=∀f,∀r∈F f,∀p x,r.F p=some x→(jg r.args=true→Pure E f (bG R r.args p) (ku (bG R r.res x)))∧
 (r.own=true→∀(τ:Ty) (h:r.res=[.d (.slice τ)]) (l:List (Den R.T τ)),(h▸x:ak R.T [.d (.slice τ)])=l→
   (jg r.args=true→E.vG f=false∧nC E f (bG R r.args p) (dB R τ) (l.map (aD R τ)))∧
   (jg r.args=false→E.vG f=true∧nC E f (acV (bG R r.args p)) (dB R τ) (l.map (aD R τ))))
theorem acW {F:Nat→List (FR R)} (hF:aO E F) {f:Nat} {c:Call} {fo:Operand} {o:Oper} {aC:Nat} {a' b':List V} (ho:o.op= .call c) (gI:c.callee= .value fo) (hf:fr.ev E fo= .fn (.func f) a' b') (hi:E.imp f=false) {args:List (TV R.T)}
 (ha:aB R ρ σ.top args (a'++c.args.toList.map (fr.ev E)++b')) (hi':aJ ρ b st fr σ):∀{l:List (FR R)} {r:dX R},(∀x∈l,x∈F f)→findF R args (nE st args) l=some r→rE E st ρ aC fr σ o r
 | [],r,_,h=>by cases h
 |q::l,r,hl,h=>by
  unfold findF at h
  split at h
  ·rename_i p hp
   obtain⟨hc,h⟩:=d9 h
   cases h
   simp only[Bool.and_eq_true] at hc
   obtain⟨⟨⟨c1,c2⟩,c3⟩,c4⟩:=hc
   intro x hx
   have hP:=(hF f q (hl q (by simp)) p x hx).1 c1
   obtain⟨vs',v1,v2⟩:=Hq hR hi' ha
   have Ht:=rF hR q.args p (nE st args) _ c1 hp v1 20 σ (by have:=Nat.le_of_ble_eq_true c2;omega)
   have has:=(v2 16).trans Ht
   have hcl:((a'++c.args.toList.map (fr.ev E)++b').all (fun x=>aA (er x))||flat (ku (bG R q.res x)))=true:=by
    rw[Bool.or_eq_true] at c4⊢
    rcases c4 with c4|c4
    ·exact .inl (Hr hR c4 ha)
    ·exact .inr (anT (VR hR _ _ c4))
   exact⟨ku (bG R q.res x),⟨fun gU _ _ _ hw h'=>OW.call hw ho gI hf hi has hP hcl h' (ach ho gI hf gU),fun gU _ _ _ _ _ hw h'=>bL.call hw ho gI hf hi has hP hcl h' (ach ho gI hf gU)⟩,anU (wm hR _ _ c3)⟩
  ·exact acW hF ho gI hf hi ha hi' (fun x hx=>hl x (by simp[hx])) h
theorem anV {t:TypeId} {x i:TV R.T} {v w:V} {r:dX R} (h:U7 E R t x i=some r) (hx:Rl R ρ top x v) (hi:Rl R ρ top i w):oC ρ top (mZ E.P t v w) r:=by
 unfold U7 at h
 split at h
 ·rename_i e c u l k n hu
  split at h
  ·rename_i sz hs
   obtain⟨hb,h⟩:=d9 h
   cases h
   have:=eF hb;subst this
   obtain⟨c',rfl,_⟩:=hx.kQ
   rw[hi.gL]
   intro a ha
   refine⟨.aM (aD R u a).cells 0, ?_, ?_⟩
   ·rw[UL,if_pos (by unfold nV;rw[hu])]
    have:jy E.P t=some e:=by unfold jy;rw[hu]
    rw[this];simp only[Option.bind_some,hs,ha]
    rw[if_pos (DR hR u a).1]
   ·unfold Rl
    refine⟨_,rfl,(vX ?_ (abJ hR u a)).1⟩
    cases u<;>rfl
  ·cases h
 ·rename_i n e o off k m hu
  split at h
  ·rename_i sz hs
   cases h
   obtain⟨s,h1,rfl⟩:=hx.oo
   rw[hi.gL]
   intro hc
   have hc':0≤m∧m<n:=of_decide_eq_true hc
   refine⟨.ref (1,o) s (off+m.toNat*sz), ?_,by unfold Rl;exact⟨s,h1,rfl⟩⟩
   unfold mZ;rw[hu];dsimp only;rw[hs]
   simp[idx,kI,hc']
  ·cases h
 ·rename_i n e cs off k m hu
  split at h
  ·rename_i sz hs
   cases h
   obtain⟨l,rfl,h1⟩:=hx.uH
   rw[hi.gL]
   intro hc
   have hc':0≤m∧m<n:=of_decide_eq_true hc
   refine⟨.aM l (off+m.toNat*sz), ?_,by unfold Rl;exact⟨l,rfl,h1⟩⟩
   unfold mZ;rw[hu];dsimp only;rw[hs]
   simp[idx,kI,hc']
  ·cases h
 ·cases h
omit hR in
theorem anW {t:TypeId} {x i:TV R.T} {v w:V} {r:dX R} (h:Vb E R t x i=some r) (hx:Rl R ρ top x v) (hi:Rl R ρ top i w):oC ρ top (vF E.P t v w) r:=by
 unfold Vb at h
 split at h
 ·rename_i s k n hu
  cases h
  rw[hx.mo,hi.gL]
  intro a ha
  refine⟨.int .u8 ((a.toNat:Nat):Int), ?_,by unfold Rl;rfl⟩
  rw[abv (by unfold GA;rw[hu]),ha];rfl
 ·cases h
end
end Aq
end
section
namespace Aq
open Go
set_option linter.unusedSectionVars false
set_option linter.unusedVariables false
section
variable {R:jB} {E:Env}
variable {ρ:aS} {top:Nat→Nat} {b aC:Nat} {st:MS R.T} {fr:Fr} {σ:ah} {o:Oper}
theorem Nr {P:Program} {t e:TypeId} {n:Nat} (h:pY P t=some (n,e)):P.underlying t=some (.array n e):=by
 unfold pY at h
 split at h
 ·rename_i n' e' hu;cases h;exact hu
 ·cases h
theorem Ah {t:TypeId} (h:qo E t=true):bX E.P t=some 1∧iK E.P t=some false:=by
 unfold qo at h
 split at h
 ·rename_i sz ag h1 h2
  rw[Bool.and_eq_true] at h
  rw[eF h.1] at h1
  cases ag
  ·exact⟨h1,h2⟩
  ·simp at h
 ·cases h
theorem yj (a b:List Sg):jm (a++b)=jm a+jm b:=by rw[←iw,pq,List.length_append,iw,iw]
theorem acX {pre rest:List Sg} {n:Nat} (h:jm pre=n) (k:Nat):(bW (pre++rest)).drop (n+k)=(bW rest).drop k:=by
 rw[pq,←h,←iw,List.drop_append,List.drop_of_length_le (by omega),List.nil_append,Nat.add_sub_cancel_left]
theorem Ns (s:Sg) (l:List Sg):bW (s::l)=s.vs++bW l:=rfl
theorem Nt (s:Sg) (l:List Sg):jm (s::l)=s.w+jm l:=rfl
theorem VT {ρ:aS} {top:Nat→Nat} (k:IntKind):∀l:List Int,aB R ρ top (l.map (TV.int k)) (l.map (V.int k))
 | []=>rfl
 |x::l=>.cons' (by unfold Rl;rfl) (VT k l)
theorem anX {n:Nat} (v:Vec n):(List.range n).map v.nth=v.l:=by
 apply List.ext_getElem
 ·rw[List.length_map,List.length_range,v.h]
 ·intro i h1 h2
  rw[List.getElem_map,List.getElem_range]
  unfold Vec.nth
  rw[List.getD_eq_getElem?_getD,List.getElem?_eq_getElem h2];rfl
theorem VU {ρ:aS} {top:Nat→Nat}:∀ss:List Sg,aB R ρ top (GV ss) (bW ss)
 | []=>rfl
 |.i k x::l=>.cons' (by unfold Rl;rfl) (VU l)
 |.a k n v::l=>by
  show aB R ρ top ((List.range n).map (fun j=>TV.int k (v.nth j))++GV l) (v.l.map (V.int k)++bW l)
  refine aB.append ?_ (VU l)
  have:(List.range n).map (fun j=>TV.int (T:=R.T) k (v.nth j))=v.l.map (TV.int k):=by
   rw[←anX v,List.map_map];rfl
  rw[this]
  exact VT k v.l
theorem acY {t:TypeId} {ss:List Sg} {off:Nat} {v:TV R.T} (h:MV E R t ss off=some v):∃y,gB E.P t (bW ss) off=some y∧Rl R ρ top v y:=by
 unfold MV at h
 split at h
 ·rename_i pre rest sz ag h1 h2 h3
  obtain⟨e1,w1⟩:=sU h1
  split at h
  ·rename_i mid post h4
   obtain⟨e2,w2⟩:=sU h4
   have hd:(bW ss).drop off=bW mid++bW post:=by
    have:=acX (rest:=rest) w1 0
    rw[←e1,Nat.add_zero] at this
    rw[this,e2,pq];rfl
   have hlen:(bW ss).length=off+(sz+jm post):=by rw[iw,e1,yj,w1,e2,yj,w2]
   unfold gB;rw[h3,h2];simp only[Option.bind_some]
   cases ag with
   |true=>
    rw[cond_true] at h
    have hp:mY true sz (bW ss) off=some (.agg (bW mid)):=by
     unfold mY;rw[if_pos rfl,if_pos (by omega),hd,List.take_append_of_le_length (by rw[iw,w2];exact Nat.le_refl _),List.take_of_length_le (by rw[iw,w2];exact Nat.le_refl _)]
    split at h
    ·cases h;exact⟨_,hp,by unfold Rl;rfl⟩
    ·cases h;exact⟨_,hp,by unfold Rl;exact⟨_,rfl,VU mid⟩⟩
   |false=>
    rw[cond_false] at h
    split at h
    ·rename_i k x
     cases h
     refine⟨.int k x, ?_,by unfold Rl;rfl⟩
     unfold mY;simp only[Bool.false_eq_true,if_false]
     have:=congrArg (fun l=>l[0]?) hd
     rw[List.getElem?_drop,Nat.add_zero] at this
     rw[this];rfl
    ·cases h
  ·cases h
 ·cases h
theorem acZ {n:Nat} (v:Vec n) {i:Int} (h:i.toNat<n):v.l[i.toNat]? =some (v.at' i):=by
 unfold Vec.at'
 rw[List.getD_eq_getElem?_getD,List.getElem?_eq_getElem (by rw[v.h];exact h)];rfl
theorem ac0 {ss pre post:List Sg} {off n:Nat} {k:IntKind} {v:Vec n} {i:Int} {t:TypeId} (h:nY ss off=some (pre,.a k n v::post)) (hi:i.toNat<n) (ht:qo E t=true):gB E.P t (bW ss) (off+i.toNat)=some (.int k (v.at' i)):=by
 obtain⟨e1,w1⟩:=sU h
 obtain⟨h1,h2⟩:=Ah ht
 unfold gB;rw[h1,h2];simp only[Option.bind_some]
 unfold mY;simp only[Bool.false_eq_true,if_false]
 rw[e1,pq,List.getElem?_append_right (by rw[iw,w1];omega),iw,w1,Nat.add_sub_cancel_left,Ns,List.getElem?_append_left (by rw[Sg.len];exact hi)]
 show (v.l.map (V.int k))[i.toNat]? =_
 rw[List.getElem?_map,acZ v hi];rfl
theorem Hu {n:Nat} {l:List Int} (h:l.length=n):(Vec.lit n l).l=l:=by
 unfold Vec.lit;rw[dif_pos h]
theorem anY {l:List Int} {a m:Nat} (h:a+m≤l.length):(List.range m).map (fun j=>l.getD (a+j) 0)=(l.drop a).take m:=by
 apply List.ext_getElem
 ·rw[List.length_map,List.length_range,List.length_take,List.length_drop];omega
 ·intro i h1 h2
  rw[List.length_map,List.length_range] at h1
  rw[List.getElem_map,List.getElem_range,List.getElem_take,List.getElem_drop,List.getD_eq_getElem?_getD,List.getElem?_eq_getElem (by omega)];rfl
theorem anZ {t:TypeId} {ss pre post:List Sg} {off n m:Nat} {k:IntKind} {v:Vec n} {i:Int} {y:TV R.T} (h:nY ss off=some (pre,.a k n v::post)) (hi:i.toNat+m≤n) (hs:Vd E R t k m n v i=some y):∃x,gB E.P t (bW ss) (off+i.toNat)=some x∧Rl R ρ top y x:=by
 obtain⟨e1,w1⟩:=sU h
 unfold Vd at hs
 split at hs
 ·rename_i m' e sz h1 h2 h3
  obtain⟨hc,hs⟩:=d9 hs
  rw[Bool.and_eq_true] at hc
  have e2:=eF hc.1;have e3:=eF hc.2
  rw[e3] at h2
  have hp:gB E.P t (bW ss) (off+i.toNat)=some (.agg (((v.l.drop i.toNat).take m).map (V.int k))):=by
   unfold gB;rw[h3,h2];simp only[Option.bind_some]
   unfold mY
   rw[if_pos rfl,if_pos (by rw[iw,e1,yj,w1,Nt];show off+i.toNat+m≤off+(n+_);omega)]
   rw[e1,acX w1,Ns]
   show some (V.agg ((((v.l.map (V.int k))++bW post).drop i.toNat).take m))=_
   rw[List.drop_append_of_le_length (by rw[List.length_map,v.h];omega),List.take_append_of_le_length (by rw[List.length_drop,List.length_map,v.h];omega),List.map_take,List.map_drop]
  refine⟨_,hp, ?_⟩
  have hl:((v.l.drop i.toNat).take m).length=m:=by rw[List.length_take,List.length_drop,v.h];omega
  split at hs
  ·cases hs
   unfold Rl
   show V.agg _= .agg (((v.slc i m).l.map (V.int k))++[])
   unfold Vec.slc
   rw[Hu hl,List.append_nil]
  ·cases hs
   unfold Rl
   refine⟨_,rfl, ?_⟩
   have:=anY (l:=v.l) (a:=i.toNat) (m:=m) (by rw[v.h];exact hi)
   have e:(List.range m).map (fun j=>TV.int (T:=R.T) k (v.nth (i.toNat+j)))=((v.l.drop i.toNat).take m).map (TV.int k):=by
    rw[←this,List.map_map];rfl
   rw[e];exact VT k _
 ·cases hs
def kW:List jA→Nat
 | []=>0
 |.i _::l=>1+kW l
 |.a _ n::l=>n+kW l
theorem Nu:∀ss:List Sg,kW (ss.map Sg.sk)=jm ss
 | []=>rfl
 |.i k x::l=>by show 1+kW (l.map Sg.sk)=1+jm l;rw[Nu l]
 |.a k n v::l=>by show n+kW (l.map Sg.sk)=n+jm l;rw[Nu l]
theorem an0:∀{ks:List jA} {cs:List (TV R.T)} {ss:List Sg} {vs:List V},xP ks cs=some ss→aB R ρ top cs vs→vs=bW ss∧jm ss=kW ks:=by
 intro ks
 induction ks with
 |nil=>
  intro cs ss vs h hr
  cases cs with
  |nil=>cases h;exact⟨hr.gK,rfl⟩
  |cons c cs=>cases h
 |cons k ks ih=>
  intro cs ss vs h hr
  cases k with
  |i k=>
   cases cs with
   |nil=>cases h
   |cons c cs=>
    obtain⟨v,ws,rfl,h1,h2⟩:=hr.eO
    cases c<;>first| (exact absurd (show none=some ss from h) (by simp))|skip
    rename_i k' x
    have h':(if k'=k then (match xP ks cs with
     |some r=>some (Sg.i k x::r)
     |none=>none) else none)=some ss:=h
    by_cases e:k'=k
    ·subst e
     rw[if_pos rfl] at h'
     cases hc:xP ks cs with
     |none=>rw[hc] at h';cases h'
     |some r=>
      rw[hc] at h';cases h'
      obtain⟨g1,g2⟩:=ih hc h2
      exact⟨by rw[h1.gL,g1];rfl,by show 1+jm r=1+kW ks;rw[g2]⟩
    ·rw[if_neg e] at h';cases h'
  |a k n=>
   have h':(match zT k (cs.take n) with
    |some xs=>bif Nat.beq xs.length n then (match xP ks (cs.drop n) with
     |some r=>some (Sg.a k n (Vec.lit n xs)::r)
     |none=>none) else none
    |none=>none)=some ss:=by cases cs<;>exact h
   cases hx:zT k (cs.take n) with
   |none=>rw[hx] at h';cases h'
   |some xs=>
    rw[hx] at h'
    dsimp only at h'
    obtain⟨hb,h'⟩:=d9 h'
    have hb:=eF hb
    cases hc:xP ks (cs.drop n) with
    |none=>rw[hc] at h';cases h'
    |some r=>
     rw[hc] at h';cases h'
     obtain⟨g1,g2⟩:=ih hc (hr.drop n)
     have g3:=VP hx (hr.take n)
     refine⟨?_,by show n+jm r=n+kW ks;rw[g2]⟩
     show vs=(Vec.lit n xs).l.map (V.int k)++bW r
     rw[Hu hb,←g3,←g1,List.take_append_drop]
theorem VW:∀{a b:List jA},Dl a b=true→a=b
 | [],[],_=>rfl
 |.i k::l,.i k'::l',h=>by
  have h':((if k=k' then true else false)&& Dl l l')=true:=h
  rw[Bool.and_eq_true] at h'
  have e:k=k':=by by_cases e:k=k';exact e;rw[if_neg e] at h';cases h'.1
  rw[e,VW h'.2]
 |.a k n::l,.a k' n'::l',h=>by
  have h':((if k=k' then true else false)&& Nat.beq n n'&& Dl l l')=true:=h
  rw[Bool.and_eq_true,Bool.and_eq_true] at h'
  have e:k=k':=by by_cases e:k=k';exact e;rw[if_neg e] at h';cases h'.1.1
  rw[e,eF h'.1.2,VW h'.2]
 | [],.i _::_,h=>by cases h
 | [],.a _ _::_,h=>by cases h
 |.i _::_,[],h=>by cases h
 |.a _ _::_,[],h=>by cases h
 |.i _::_,.a _ _::_,h=>by cases h
 |.a _ _::_,.i _::_,h=>by cases h
theorem Hw:∀ss:List Sg,bN (bW ss)=true
 | []=>rfl
 |.i k x::l=>by show (oneCell (.int k x)&& bN (bW l))=true;rw[Hw l];rfl
 |.a k n v::l=>by
  show bN (v.l.map (V.int k)++bW l)=true
  have h1:=Hw l
  unfold bN at h1⊢
  rw[List.all_append,h1,List.all_map];simp[oneCell]
theorem ac1 {ks:List jA} {tv:TV R.T} {ss:List Sg} {v:V} (h:MU ks tv=some ss) (hr:Rl R ρ top tv v):v.cells=bW ss∧jm ss=kW ks∧dW v=true:=by
 unfold MU at h
 split at h
 ·rename_i ss'
  obtain⟨h1,h⟩:=d9 h
  cases h
  rw[hr.G8,VW h1]
  exact⟨rfl,(Nu ss).symm,rfl⟩
 ·obtain⟨l,rfl,hl⟩:=hr.kD
  obtain⟨h1,h2⟩:=an0 h hl
  exact⟨h1,h2,rfl⟩
 ·rename_i k x
  split at h
  ·split at h
   ·rename_i e;subst e;cases h
    rw[hr.gL];exact⟨rfl,rfl,rfl⟩
   ·cases h
  ·cases h
 ·cases h
theorem VX {k:IntKind}:∀{cs:List (TV R.T)} {vs:List V},zX k cs=true→aB R ρ top cs vs→vs=List.replicate cs.length (V.int k 0)
 | [],vs,_,hr=>hr.gK
 |c::cs,vs,h,hr=>by
  obtain⟨v,ws,rfl,h1,h2⟩:=hr.eO
  cases c<;>first| (exact absurd (show false=true from h) (by simp))|skip
  rename_i k' x
  have h':((if k'=k then (if x=0 then true else false) else false)&& zX k cs)=true:=h
  rw[Bool.and_eq_true] at h'
  have e1:k'=k:=by by_cases e:k'=k;exact e;rw[if_neg e] at h';cases h'.1
  have e2:x=0:=by by_cases e:x=0;exact e;rw[if_pos e1,if_neg e] at h';cases h'.1
  rw[h1.gL,e1,e2,VX h'.2 h2];rfl
theorem an1:∀{ks:List jA} {cs:List (TV R.T)} {vs:List V},Dk ks cs=true→aB R ρ top cs vs→vs=bW (ks.map MR):=by
 intro ks
 induction ks with
 |nil=>
  intro cs vs h hr
  cases cs with
  |nil=>exact hr.gK
  |cons c cs=>cases h
 |cons k ks ih=>
  intro cs vs h hr
  cases k with
  |i k=>
   cases cs with
   |nil=>cases h
   |cons c cs=>
    obtain⟨v,ws,rfl,h1,h2⟩:=hr.eO
    have h':(zX k [c]&& Dk ks cs)=true:=h
    rw[Bool.and_eq_true] at h'
    have:=VX h'.1 (aB.cons' h1 aB.nil')
    cases this
    rw[ih h'.2 h2];rfl
  |a k n=>
   have h':(Nat.ble n cs.length&& zX k (cs.take n)&& Dk ks (cs.drop n))=true:=by cases cs<;>exact h
   rw[Bool.and_eq_true,Bool.and_eq_true] at h'
   have h1:=Nat.le_of_ble_eq_true h'.1.1
   have h2:=VX h'.1.2 (hr.take n)
   have h3:=ih h'.2 (hr.drop n)
   rw[←List.take_append_drop n vs,h2,h3,List.length_take,Nat.min_eq_left h1]
   show _=(List.replicate n (0:Int)).map (V.int k)++bW (ks.map MR)
   rw[List.map_replicate]
theorem an2 {pre mid post mid':List Sg} {off sz:Nat} (h1:jm pre=off) (h2:jm mid=sz) (h3:jm mid'=sz):fK (bW (pre++(mid++post))) off (bW mid')=bW (pre++(mid'++post)):=by
 unfold fK
 rw[pq,pq,pq,pq,iw,h3]
 rw[List.take_append_of_le_length (by rw[iw,h1];exact Nat.le_refl _),List.take_of_length_le (by rw[iw,h1];exact Nat.le_refl _)]
 rw[←List.append_assoc (bW pre) (bW mid),List.drop_append_of_le_length (by rw[List.length_append,iw,iw,h1,h2];exact Nat.le_refl _),List.drop_of_length_le (by rw[List.length_append,iw,iw,h1,h2];exact Nat.le_refl _)]
 rw[List.nil_append,List.append_assoc]
theorem ac2 {pre post:List Sg} {off n a:Nat} {k:IntKind} {v w:Vec n} {l:List Int} (h1:jm pre=off) (h2:a+l.length≤n) (h3:w.l=v.l.take a++l++v.l.drop (a+l.length)):fK (bW (pre++(.a k n v::post))) (off+a) (l.map (V.int k))=bW (pre++(.a k n w::post)):=by
 unfold fK
 rw[pq,pq,Ns,Ns]
 show ((bW pre++(v.l.map (V.int k)++bW post)).take (off+a)++l.map (V.int k)++(bW pre++(v.l.map (V.int k)++bW post)).drop (off+a+(l.map (V.int k)).length))=bW pre++(w.l.map (V.int k)++bW post)
 have hp:(bW pre).length=off:=by rw[iw,h1]
 have hv:(v.l.map (V.int k)).length=n:=by rw[List.length_map,v.h]
 rw[List.length_map]
 rw[List.take_append,List.take_of_length_le (by omega),hp,Nat.add_sub_cancel_left,List.take_append_of_le_length (by omega)]
 rw[List.drop_append,List.drop_of_length_le (by omega),hp,List.nil_append,show off+a+l.length-off=a+l.length by omega,List.drop_append_of_le_length (by omega)]
 rw[h3,List.map_append,List.map_append,List.map_take,List.map_drop]
 simp only[List.append_assoc]
theorem an3 {l:List Int} {a:Nat} {y:Int} (h:a<l.length):l.set a y=l.take a++[y]++l.drop (a+1):=by
 rw[List.set_eq_take_append_cons_drop,if_pos h];simp
theorem VY {g:Nat} {t:TypeId} {k:IntKind} {n:Nat} {v:Vec n} (h:MX E R g t=some ⟨k,n,v⟩):∃cs e,E.glob g=some cs∧cs=v.l.map (V.int k)∧pY E.P t=some (n,e)∧bX E.P t=some n∧iK E.P t=some true∧qo E e=true:=by
 unfold MX at h
 split at h
 ·rename_i cs k' n' v' m e sz ag h1 h2 h3 h4 h5
  obtain⟨hc,h⟩:=d9 h
  cases h
  simp only[Bool.and_eq_true] at hc
  obtain⟨⟨⟨⟨c1,c2⟩,c3⟩,c4⟩,c5⟩:=hc
  subst c1
  rw[eF c2] at h3;rw[eF c3] at h4
  refine⟨cs,e,h1, ?_,h3,h4,h5,c4⟩
  have key:∀(cs:List V) (l:List Int),MW k cs l=true→cs=l.map (V.int k):=by
   intro cs
   induction cs with
   |nil=>intro l h;cases l with
    |nil=>rfl
    |cons y l=>cases h
   |cons c cs ih=>
    intro l h
    cases l with
    |nil=>cases c<;>cases h
    |cons y l=>
     cases c<;>first| (exact absurd (show false=true from h) (by simp))|skip
     rename_i k' x
     have h':((if k'=k then (if x=y then true else false) else false)&& MW k cs l)=true:=h
     rw[Bool.and_eq_true] at h'
     have e1:k'=k:=by by_cases e:k'=k;exact e;rw[if_neg e] at h';cases h'.1
     have e2:x=y:=by by_cases e:x=y;exact e;rw[if_pos e1,if_neg e] at h';cases h'.1
     rw[e1,e2,ih l h'.2];rfl
  exact key cs v.l c5
 ·cases h
theorem Nv {i:Int} {n:Nat} (h:bP i n=true):0≤i∧i<n∧i.toNat<n:=by
 have:=of_decide_eq_true h
 omega
theorem VZ {k:IntKind} {i:Int} {n:Nat} (h:bP i n=true):idx (.int k i) n=some i.toNat:=by
 obtain⟨h1,h2,_⟩:=Nv h
 simp[idx,kI,h1,h2]
theorem Nw {k:IntKind} {i:Int} {n:Nat} (h1:0≤i) (h2:i≤n):bnd (.int k i) n=some i.toNat:=by
 simp[bnd,kI,h1,h2]
theorem an4 {n:Nat} {lo hi:Option Int} {vl vh:Option V} (hl:(lo=none∧vl=none)∨∃n k,lo=some n∧vl=some (.int k n)) (hh:(hi=none∧vh=none)∨∃n k,hi=some n∧vh=some (.int k n)) (hb:nH n lo hi=true):
 jI n n vl vh none=some ((dQ lo).toNat,(gJ n hi).toNat,n):=by
 rcases hl with ⟨rfl,rfl⟩| ⟨a,k,rfl,rfl⟩<;>rcases hh with ⟨rfl,rfl⟩| ⟨c,k',rfl,rfl⟩<;>simp only[nH,decide_eq_true_eq] at hb
 ·simp[jI,dQ,gJ]
 ·simp[jI,dQ,gJ,Nw hb.1 hb.2]
 ·simp[jI,dQ,gJ,Nw (i:=a) (n:=n) hb.1 (by omega)]
 ·simp[jI,dQ,gJ,Nw (i:=c) (n:=n) (by omega) hb.2.2.1,Nw (i:=a) (n:=c.toNat) hb.1 (by omega)]
theorem an5 {P:Program} {t e:TypeId} {y:V} {ys cs:List V} {loc:Aq.Loc} {s off len cap:Nat} {ag:Bool} (he:jy P t=some e) (z1:bX P e=some 1) (z2:iK P e=some false) (q2:uf y=false) (q1:jU σ false 1 ay y=some ys) (hone:ys.all (fun v=>bN v.cells)=true)
 (h4:σ.bY loc s=some cs) (hb:off+min ys.length len≤cs.length):copyV P σ t (.vw loc s off len cap 1 ag) y=some (.int .i64 (min ys.length len:Nat),σ.setObj loc s (.cells (fK cs off ((ys.take (min ys.length len)).flatMap V.cells)))):=by
 unfold copyV
 rw[he];simp only[Option.bind_some,z1,z2]
 rw[if_pos ⟨q2,rfl⟩,q1];simp only[Option.bind_some]
 rw[if_pos hone,h4];simp only[Option.bind_some]
 rw[if_pos ⟨trivial,by rw[Nat.mul_one];exact hb⟩]
theorem Ny {t:TypeId} {x:TV R.T} {lo hi:Option (TV R.T)} {v:V} {vl vh:Option V} {r:dX R} (h:xQ E R t x lo hi st=some r) (hx:Rl R ρ σ.top x v) (him:aJ ρ b st fr σ)
 (hl:∀y,lo=some y→∃w,vl=some w∧Rl R ρ σ.top y w) (hln:lo=none→vl=none) (hh:∀y,hi=some y→∃w,vh=some w∧Rl R ρ σ.top y w) (hhn:hi=none→vh=none):oC ρ σ.top (j6 E.P σ t v vl vh none) r:=by
 unfold xQ at h
 split at h
 ·rename_i p off lo' hi' n e e1 e2 ha
  have b1:=Nf e1 hl hln
  have b2:=Nf e2 hh hhn
  obtain⟨hel,h⟩:=d9 h
  obtain⟨z1,z2⟩:=Ah hel
  obtain⟨s,h1,rfl⟩:=hx.oo
  have fin:∀(k:IntKind) (cs:List V),σ.bY (1,p) s=some cs→off+n≤cs.length→nH n lo' hi'=true→∃y,j6 E.P σ t (.ref (1,p) s off) vl vh none=some y∧Rl R ρ σ.top (.sv p off k n lo' hi') y:=by
   intro k cs hc hlen hB
   obtain⟨p1,p2,p3,_,_⟩:=Af hB
   refine⟨_, ?_,by unfold Rl;exact⟨s,h1,hB,rfl⟩⟩
   unfold j6
   rw[Nr ha];dsimp only
   rw[z1,z2,an4 b1 b2 hB,hc]
   simp only[Option.bind_some,Nat.mul_one]
   rw[if_pos hlen,if_neg (by omega)]
  split at h
  ·rename_i ss hl'
   obtain⟨s',h3,h4⟩:=him.rd hl'
   rw[h1] at h3;cases h3
   split at h
   ·rename_i pre k n' v' post hsp
    obtain⟨hb,h⟩:=d9 h
    have:=eF hb;subst this
    cases h
    obtain⟨e3,hw⟩:=sU hsp
    intro hc
    exact fin k _ h4 (by rw[iw,e3,yj,hw,Nt];show off+n'≤off+(n'+_);omega) hc
   ·cases h
  ·rename_i cs hl'
   obtain⟨s',vs,h3,h4,h5⟩:=him.rd hl'
   rw[h1] at h3;cases h3
   split at h
   ·rename_i k _ _ _
    obtain⟨hb,h⟩:=d9 h
    cases h
    intro hc
    exact fin k _ h4 (by rw[h5.length];exact Nat.le_of_ble_eq_true hb) hc
   ·cases h
  ·cases h
 ·cases h
end
end Aq
end
