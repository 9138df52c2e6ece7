/- Part of the proof of a law. -/
import Derived.Test.YteniejlbjfigdaaGreatDoorX10
set_option linter.all false
set_option linter.unusedSimpArgs false
set_option linter.unusedSectionVars false
section
namespace Aq
open Go
set_option linter.unusedSectionVars false
set_option linter.unusedVariables false
section
variable {R:iM} {E:Env}
variable {ρ:aO} {top:Nat→Nat} {b:Nat} {st:MS R.T} {fr:Fr} {σ:ah}
theorem Ra {n:Nat} {f:Nat} (a b:List V):aP (n+2) σ (.fn (.func f) a b)=(a.mapM (aP (n+1) σ)).bind fun a=>(b.mapM (aP (n+1) σ)).map fun b=>.fn (.func f) a b:=by
 by_cases hp:aC (.fn (.func f) a b)=true
 ·rw[jE hp]
  have:∀cs:List V,aX cs=true→cs.mapM (aP (n+1) σ)=some cs:=by
   intro cs
   induction cs with
   |nil=>intro _;rfl
   |cons a l ih=>
    intro h
    simp only[aX,Bool.and_eq_true] at h
    rw[List.mapM_cons,jE h.1,ih h.2];rfl
  simp only[aC,Bool.and_eq_true] at hp
  rw[this a hp.1,this b hp.2];rfl
 ·conv=>lhs;unfold aP
  simp only[hp,if_false,Bool.false_eq_true]
theorem XT {n:Nat} {off:Nat} (cs:List V):aP (n+2) σ (.aK cs off)=(cs.mapM (aP (n+1) σ)).map (.aK · off):=by
 by_cases hp:aC (.aK cs off)=true
 ·rw[jE hp]
  have:∀cs:List V,aX cs=true→cs.mapM (aP (n+1) σ)=some cs:=by
   intro cs
   induction cs with
   |nil=>intro _;rfl
   |cons a l ih=>
    intro h
    simp only[aX,Bool.and_eq_true] at h
    rw[List.mapM_cons,jE h.1,ih h.2];rfl
  rw[this cs (by simpa [aC] using hp)];rfl
 ·conv=>lhs;unfold aP
  simp only[hp,if_false,Bool.false_eq_true]
variable (hR:mX R)
include hR
theorem Rb {k e:Ty} (m:List (Den R.T k×Den R.T e)):aC (.dx (m.map fun p=>aF R k p.1) (m.map fun p=>aF R e p.2))=true:=by
 simp only[aC,Bool.and_eq_true]
 have h1:∀m:List (Den R.T k×Den R.T e),aX (m.map fun p=>aF R k p.1)=true∧aX (m.map fun p=>aF R e p.2)=true:=by
  intro m
  induction m with
  |nil=>exact⟨rfl,rfl⟩
  |cons p m ih=>exact⟨by simp[aX,ng hR,ih.1],by simp[aX,ng hR,ih.2]⟩
 exact h1 m
theorem XU:∀(t:Ty) (x:Den R.T t) (v:V),mh t=true→Rl R ρ top (u6 R .any t x) v→∀n σ,aP (n+2) σ v=some (aF R t x)
 |.int k,x,v,_,h,n,σ=>by rw[Rl.fQ (R:=R) h];exact P5 (n+1) _ _
 |.bool,x,v,_,h,n,σ=>by rw[Rl.oM (R:=R) h];exact P6 (n+1) _
 |.str,x,v,_,h,n,σ=>by rw[Rl.lg (R:=R) h];exact P7 (n+1) _
 |.slice t,x,v,_,h,n,σ=>by
  obtain⟨c,rfl,_⟩:=Rl.jY (R:=R) h
  exact uY _ _ (ng hR _)
 |.st n,_,_,h,_,_,_=>by simp[mh] at h
theorem AZ:∀(l:List Ty) (p:lH R.T l) (vs:List V),l.all mh=true→aA R ρ top (jl R .any l p) vs→∀n σ,vs.mapM (aP (n+2) σ)=some (encs R l p)
 | [],_,vs,_,h,n,σ=>by rw[aA.fP h];rfl
 | [t],x,vs,hl,h,n,σ=>by
   obtain⟨v,l,rfl,h1,h2⟩:=aA.eD h
   rw[aA.fP h2,List.mapM_cons,XU hR t x v (by simpa using hl) h1];rfl
 |t::u::l,p,vs,hl,h,n,σ=>by
  rw[List.all_cons,Bool.and_eq_true] at hl
  obtain⟨v,ws,rfl,h1,h2⟩:=aA.eD h
  rw[List.mapM_cons,XU hR t p.1 v hl.1 h1,AZ (u::l) p.2 ws hl.2 h2];rfl
theorem ahO (t:Ty) (x:Den R.T t) (vs:List V) (h:aA R ρ top (fZ R .any t x).cells vs) (n:Nat) (σ:ah):vs.mapM (aP (n+2) σ)=some (aF R t x).cells:=by
 cases t with
 |st k=>
  have he:aF R (.st k) x= .agg (encs R (R.lf k) (R.of k x)):=hR.enc k x
  rw[he]
  exact AZ hR _ _ vs (hR.leaf k) h n σ
 |int k=>exact AZ hR [.int k] x vs rfl h n σ
 |bool=>exact AZ hR [.bool] x vs rfl h n σ
 |str=>exact AZ hR [.str] x vs rfl h n σ
 |slice t=>exact AZ hR [.slice t] x vs rfl h n σ
theorem XV {t:Ty} {ρ:aO} {top:Nat→Nat}:∀(l:List (Den R.T t)) (cs:List V),aA R ρ top (l.flatMap fun x=>(fZ R .any t x).cells) cs→∀(n:Nat) (σ:ah),cs.mapM (aP (n+2) σ)=some ((l.map (aF R t)).flatMap V.cells)
 | [],cs,h,n,σ=>by rw[aA.fP h];rfl
 |x::l,cs,h,n,σ=>by
  rw[List.flatMap_cons] at h
  obtain⟨a,b,rfl,h1,h2⟩:=h.split
  rw[List.mapM_append,XV l b h2 n σ,List.map_cons,List.flatMap_cons]
  have:a.mapM (aP (n+2) σ)=some (aF R t x).cells:=ahO hR t x a h1 n σ
  rw[this];rfl
theorem ahP {t:Ty} (l:List (Den R.T t)):chunks (gW t) (cZ R t) l.length ((l.map (aF R t)).flatMap V.cells)=l.map (aF R t):=by
 have:=Q0 (gW t) (cZ R t) (l.map (aF R t)) (fun v hv=>by
  obtain⟨x,_,rfl⟩:=List.mem_map.1 hv
  exact(AV hR t x).1)
 rw[List.length_map] at this
 rw[this,List.map_map]
 refine List.map_congr_left fun x _=> ?_
 show (if gW t then V.agg (aF R t x).cells else (aF R t x).cells.headD ay)=aF R t x
 cases hs:gW t
 ·cases t<;>first|rfl| (simp[gW] at hs;done)
 ·obtain⟨c,hc⟩:=(AV hR t x).2.2.2.1 hs
  rw[hc];rfl
theorem ahQ {t:Ty} (l:List (Den R.T t)):(gW t||cZ R t==1&& bL ((l.map (aF R t)).flatMap V.cells))=true:=by
 cases hs:gW t
 ·have h1:cZ R t=1:=by cases t<;>first|rfl| (simp[gW] at hs;done)
  rw[h1]
  have:bL ((l.map (aF R t)).flatMap V.cells)=true:=by
   have:=Q5 hR l
   unfold bL at this⊢
   rw[List.all_flatMap]
   exact this
  rw[this];rfl
 ·rfl
omit hR in
theorem XW:∀(a b:List V),aX (a++b)=(aX a&& aX b)
 | [],b=>by simp[aX]
 |x::a,b=>by simp only[List.cons_append,aX];rw[XW a b,Bool.and_assoc]
omit hR in
theorem LM (k:IntKind):∀l:List Int,aX (l.map (V.int k))=true
 | []=>by simp[aX]
 |x::l=>by simp only[List.map_cons,aX,P8,Bool.true_and];exact LM k l
omit hR in
theorem Rc:∀ss:List Sg,aX (bU ss)=true
 | []=>by simp[bU,aX]
 |.i k x::ss=>by show aX (V.int k x::bU ss)=true;unfold aX;rw[Rc ss];simp[aC]
 |.a k n v::ss=>by
  show aX (v.l.map (V.int k)++bU ss)=true
  rw[XW,LM,Rc ss];rfl
omit hR in
theorem Rf (ss:List Sg):aC (.agg (bU ss))=true:=by unfold aC;exact Rc ss
omit hR in
theorem XY:∀(a b:List V),iX (a++b)=(iX a&& iX b)
 | [],b=>by simp[iX]
 |x::a,b=>by simp only[List.cons_append,iX];rw[XY a b,Bool.and_assoc]
omit hR in
theorem XZ (k:IntKind):∀l:List Int,iX (l.map (V.int k))=true
 | []=>by simp[iX]
 |x::l=>by simp only[List.map_cons,iX,flat,Bool.true_and];exact XZ k l
omit hR in
theorem LP:∀ss:List Sg,iX (bU ss)=true
 | []=>by simp[bU,iX]
 |.i k x::ss=>by show iX (V.int k x::bU ss)=true;unfold iX;rw[LP ss];simp[flat]
 |.a k n v::ss=>by
  show iX (v.l.map (V.int k)++bU ss)=true
  rw[XY,XZ,LP ss];rfl
omit hR in
theorem ahR (ss:List Sg):er (.agg (bU ss))= .agg (bU ss):=by
 have:∀ss:List Sg,(bU ss).map fG=bU ss:=by
  intro ss
  induction ss with
  |nil=>rfl
  |cons s ss ih=>
   cases s with
   |i k x=>show fG (.int k x)::(bU ss).map fG=_;rw[ih];rfl
   |a k n v=>
    show (v.l.map (V.int k)++bU ss).map fG=_
    rw[List.map_append,ih,List.map_map];rfl
 show V.agg ((bU ss).map fG)=_
 rw[this]
omit hR in
theorem nV:∀(a b:List Sg),bU (a++b)=bU a++bU b
 | [],b=>rfl
 |s::a,b=>by show s.vs++bU (a++b)=s.vs++bU a++bU b;rw[nV a b,List.append_assoc]
omit hR in
theorem Sg.len:∀s:Sg,s.vs.length=s.w
 |.i _ _=>rfl
 |.a _ n v=>by show (v.l.map _).length=n;rw[List.length_map,v.h]
omit hR in
theorem gF:∀ss:List Sg,(bU ss).length=iL ss
 | []=>rfl
 |s::ss=>by show (s.vs++bU ss).length=s.w+iL ss;rw[List.length_append,s.len,gF ss]
omit hR in
theorem qI:∀{ss:List Sg} {n:Nat} {a b:List Sg},mR ss n=some (a,b)→ss=a++b∧iL a=n
 |ss,0,a,b,h=>by
  have h':some (([]:List Sg),ss)=some (a,b):=by cases ss<;>exact h
  cases h';exact⟨rfl,rfl⟩
 | [],n+1,a,b,h=>by cases h
 |s::ss,n+1,a,b,h=>by
  unfold mR at h
  obtain⟨h1,h⟩:=dQ h
  split at h
  ·rename_i a' b' h2
   cases h
   obtain⟨e,hw⟩:=qI h2
   have:=Nat.le_of_ble_eq_true h1
   refine⟨by rw[e];rfl, ?_⟩
   show s.w+iL a'=n+1
   omega
  ·cases h
omit hR in
theorem Rh {ρ:aO} {top:Nat→Nat} {k:IntKind}:∀{cs:List (TV R.T)} {xs:List Int} {vs:List V},xC k cs=some xs→aA R ρ top cs vs→vs=xs.map (V.int k)
 | [],xs,vs,h,hr=>by cases h;exact hr.fP
 |c::cs,xs,vs,h,hr=>by
  obtain⟨v,ws,rfl,h1,h2⟩:=hr.eD
  cases c<;>first| (exact absurd (show none=some xs from h) (by simp))|skip
  rename_i k' x
  have h':(if k'=k then (match xC k cs with
   |some xs=>some (x::xs)
   |none=>none) else none)=some xs:=h
  split at h'
  ·rename_i e;subst e
   split at h'
   ·rename_i ys hy
    cases h'
    rw[h1.fQ,Rh hy h2];rfl
   ·cases h'
  ·cases h'
omit hR in
theorem X0 (k:IntKind):∀(l:List Int) (rest:List V),chunks false 1 l.length (l.map (V.int k)++rest)=l.map (V.int k)
 | [],rest=>rfl
 |x::l,rest=>by
  show V.int k x::chunks false 1 l.length (l.map (V.int k)++rest)=_
  rw[X0 k l rest];rfl
omit hR in
theorem xR {n:Nat} {lo hi:Option Int} (h:mV n lo hi=true):(dH lo).toNat≤(fO n hi).toNat∧(fO n hi).toNat≤n∧((dH lo).toNat< (fO n hi).toNat∨(dH lo).toNat=0)∧0≤dH lo∧dH lo≤fO n hi:=by
 cases lo<;>cases hi<;>simp only[mV,dH,fO,decide_eq_true_eq] at h⊢ <;>omega
omit hR in
theorem ahS {α:Type} {n:Nat} {lo hi:Option Int} (h:mV n lo hi=true) {l:List α} (hl:l.length=n):zT l lo hi=(l.drop (dH lo).toNat).take ((fO n hi).toNat-(dH lo).toNat):=by
 obtain⟨h1,h2,_⟩:=xR h
 cases lo<;>cases hi<;>simp only[zT,dH,fO] at*
 ·simp[hl];rw[List.take_of_length_le (by omega)]
 ·simp
 ·rw[List.take_of_length_le];rw[List.length_drop];omega
 ·rw[List.take_drop];congr 1;congr 1;omega
theorem X3 (hi:aG ρ b st fr σ) {o off n:Nat} {k:IntKind} {lo hi':Option Int} {l:List Int} (h:KW st o off k n lo hi'=some l) {s:Nat} (hs:ρ.ob o=some s) (hB:mV n lo hi'=true):
 ∃cs,σ.cu (1,o) s=some cs∧off+n≤cs.length∧(cs.drop (off+(dH lo).toNat)).take ((fO n hi').toNat-(dH lo).toNat)=l.map (V.int k)∧l.length=(fO n hi').toNat-(dH lo).toNat:=by
 obtain⟨p1,p2,p3,_,_⟩:=xR hB
 have fin:∀(cs:List V) (xs:List Int),xs.length=n→(cs.drop off).take n=xs.map (V.int k)→off+n≤cs.length→l=zT xs lo hi'→(cs.drop (off+(dH lo).toNat)).take ((fO n hi').toNat-(dH lo).toNat)=l.map (V.int k)∧l.length=(fO n hi').toNat-(dH lo).toNat:=by
  intro cs xs hx hc hle hl
  rw[ahS hB hx] at hl
  subst hl
  constructor
  ·rw[List.map_take,List.map_drop,←hc,List.drop_take,List.take_take,List.drop_drop]
   congr 1
   omega
  ·rw[List.length_take,List.length_drop];omega
 unfold KW at h
 split at h
 ·rename_i ss hl
  obtain⟨s',h1,h2⟩:=hi.rd hl
  rw[hs] at h1;cases h1
  split at h
  ·rename_i pre k' n' v post hsp
   by_cases e:k'=k
   ·subst e
    rw[if_pos rfl] at h
    cases e2:Nat.beq n' n
    ·rw[e2] at h;cases h
    rw[e2] at h
    have e2:=dY e2
    subst e2
    obtain rfl:zT v.l lo hi'=l:=Option.some.inj h
    obtain⟨e3,hw⟩:=qI hsp
    refine⟨_,h2, ?_, ?_⟩
    ·rw[e3,gF]
     have:∀a b:List Sg,iL (a++b)=iL a+iL b:=fun a b=>by rw[←gF,nV,List.length_append,gF,gF]
     rw[this,hw]
     show off+n'≤off+(n'+iL post);omega
    ·refine fin _ v.l v.h ?_ ?_ rfl
     ·rw[e3,nV,List.drop_append_of_le_length (by rw[gF,hw];exact Nat.le_refl _),List.drop_of_length_le (by rw[gF,hw];exact Nat.le_refl _),List.nil_append]
      show ((v.l.map (V.int k'))++bU post).take n'=_
      rw[List.take_append_of_le_length (by rw[List.length_map,v.h];exact Nat.le_refl _),List.take_of_length_le (by rw[List.length_map,v.h];exact Nat.le_refl _)]
     ·rw[e3,nV,List.length_append,gF,hw,gF]
      show off+n'≤off+(n'+iL post);omega
   ·rw[if_neg e] at h;cases h
  ·cases h
 ·rename_i cs hl
  obtain⟨s',vs,h1,h2,h3⟩:=hi.rd hl
  rw[hs] at h1;cases h1
  obtain⟨hb,h⟩:=dQ h
  have hb:=Nat.le_of_ble_eq_true hb
  split at h
  ·rename_i xs hx
   cases h
   have hv:=Rh hx ((h3.drop off).take n)
   have hlen:off+n≤vs.length:=by rw[h3.length];exact hb
   refine⟨vs,h2,hlen,fin vs xs ?_ hv hlen rfl⟩
   have:=congrArg List.length hv
   rw[List.length_map,List.length_take,List.length_drop] at this
   omega
  ·cases h
 ·cases h
theorem X4 (hi:aG ρ b st fr σ) {x:TV R.T} {v:V} (h:Rl R ρ σ.top x v):∃v',Rl R ρ σ.top (rV st x) v'∧∀n,aP (n+3) σ v=aP (n+3) σ v':=by
 by_cases hx:∃o off,x= .ref o off
 ·obtain⟨o,off,rfl⟩:=hx
  unfold rV
  dsimp only
  split
  ·rename_i cs hl
   obtain⟨s,h1,rfl⟩:=h.mY
   obtain⟨s',l,h2,h3,h4⟩:=hi.rd hl
   rw[h1] at h2;cases h2
   refine⟨.aK l off,by unfold Rl;exact⟨l,rfl,h4⟩,fun n=> ?_⟩
   rw[XT]
   conv=>lhs;unfold aP
   simp only[aC,Bool.false_eq_true,if_false,h3,Option.bind_some]
  ·exact⟨v,h,fun _=>rfl⟩
 ·by_cases hy:∃o,x= .cK o
  ·obtain⟨o,rfl⟩:=hy
   unfold rV
   dsimp only
   split
   ·rename_i k e m hl
    obtain⟨s,h1,rfl⟩:=h.um
    obtain⟨s',h2,h3⟩:=hi.rd hl
    rw[h1] at h2;cases h2
    refine⟨.dx (m.map fun p=>aF R k p.1) (m.map fun p=>aF R e p.2),by unfold Rl;rfl,fun n=> ?_⟩
    have hp:=Rb hR m
    rw[jE hp]
    have hp':=hp
    simp only[aC,Bool.and_eq_true] at hp'
    have key:∀cs:List V,aX cs=true→cs.mapM (aP (n+2) σ)=some cs:=by
     intro cs
     induction cs with
     |nil=>intro _;rfl
     |cons a l ih=>
      intro h
      simp only[aX,Bool.and_eq_true] at h
      rw[List.mapM_cons,jE h.1,ih h.2];rfl
    conv=>lhs;unfold aP
    simp only[aC,Bool.false_eq_true,if_false,h3,Option.bind_some,key _ hp'.1,key _ hp'.2,Option.map_some]
   ·exact⟨v,h,fun _=>rfl⟩
  ·by_cases hz:∃o t,x= .vw o t
   ·obtain⟨o,t,rfl⟩:=hz
    unfold rV
    dsimp only
    split
    ·rename_i t' l hl
     split
     ·rename_i e
      subst e
      have hO:=hi.rd hl
      refine⟨.ak .sh (l.map (aF R t')),by unfold Rl;exact⟨.sh,rfl,rfl⟩,fun n=> ?_⟩
      rw[uY _ _ (ng hR t')]
      rcases h.Aw with ⟨s,h1,rfl⟩| ⟨h1,h2⟩
      ·rcases hO.2 with h2| ⟨s',cs,h2,h3,h4⟩
       ·rw[h1] at h2;exact absurd h2.2 (by simp)
       ·rw[h1] at h2;cases h2
        have hlc:cs.length=l.length*cZ R t':=by rw[h4.length,LK]
        have hlen:l.length=ρ.ln o:=hO.1
        conv=>lhs;unfold aP
        simp only[aC,Bool.false_eq_true,if_false,h3,Option.bind_some,Nat.zero_add,List.drop_zero]
        rw[if_pos (by rw[hlc,hlen];exact Nat.le_refl _),List.take_of_length_le (by rw[hlc,hlen];exact Nat.le_refl _),XV hR l cs h4 n σ]
        simp only[Option.bind_some]
        rw[←hlen,ahP hR l,ahQ hR l,if_pos rfl]
        rfl
      ·have hl0:l=[]:=List.eq_nil_of_length_eq_zero (hO.1.trans h1)
       subst hl0
       rcases h2 with rfl|rfl<;>exact uY _ ([]:List (Den R.T t')) (ng hR t')
     ·exact⟨v,h,fun _=>rfl⟩
    ·exact⟨v,h,fun _=>rfl⟩
   ·by_cases hz2:∃o off k n lo hi,x= .sv o off k n lo hi
    ·obtain⟨o,off,k,n,lo,hi',rfl⟩:=hz2
     unfold rV
     dsimp only
     split
     ·rename_i l hl
      obtain⟨s,h1,hB,rfl⟩:=h.vI
      obtain⟨cs,c1,c2,c3,c4⟩:=X3 hR hi hl h1 hB
      obtain⟨p1,p2,p3,_,_⟩:=xR hB
      refine⟨.ak .sh (l.map (V.int k)),by unfold Rl;exact⟨.sh,rfl,rfl⟩,fun m=> ?_⟩
      have hcl:aP (m+3) σ (.ak .sh (l.map (V.int k)))=some (.ak .sh (l.map (V.int k))):=jE (by unfold aC;exact LM k l)
      rw[hcl]
      conv=>lhs;unfold aP
      simp only[aC,Bool.false_eq_true,if_false,c1,Option.bind_some,Nat.mul_one]
      rw[if_pos (by omega),c3]
      have key:∀cs:List V,aX cs=true→cs.mapM (aP (m+2) σ)=some cs:=by
       intro cs
       induction cs with
       |nil=>intro _;rfl
       |cons a l ih=>
        intro h
        simp only[aX,Bool.and_eq_true] at h
        rw[List.mapM_cons,jE h.1,ih h.2];rfl
      rw[key _ (LM k l)]
      simp only[Option.bind_some]
      have hone:bL (l.map (V.int k))=true:=by unfold bL;rw[List.all_map];simp[oneCell]
      rw[hone,←c4]
      have:=X0 k l []
      rw[List.append_nil] at this
      rw[this];rfl
     ·exact⟨v,h,fun _=>rfl⟩
    ·have:rV st x=x:=by cases x<;>first|rfl|exact absurd ⟨_,_,rfl⟩ hx|exact absurd ⟨_,rfl⟩ hy|exact absurd ⟨_,_,rfl⟩ hz|exact absurd ⟨_,_,_,_,_,_,rfl⟩ hz2
     rw[this];exact⟨v,h,fun _=>rfl⟩
theorem LQ (hi:aG ρ b st fr σ):∀{x:List (TV R.T)} {v:List V},aA R ρ σ.top x v→∃v',aA R ρ σ.top (FC st x) v'∧∀n,v.mapM (aP (n+3) σ)=v'.mapM (aP (n+3) σ)
 | [],v,h=>by rw[h.fP];exact⟨[],rfl,fun _=>rfl⟩
 |x::xs,v,h=>by
  obtain⟨w,ws,rfl,h1,h2⟩:=h.eD
  obtain⟨w',a1,a2⟩:=X4 hR hi h1
  obtain⟨ws',b1,b2⟩:=LQ hi h2
  exact⟨w'::ws',.cons' a1 b1,fun n=>by rw[List.mapM_cons,List.mapM_cons,a2,b2]⟩
theorem ahT (hi:aG ρ b st fr σ) {x:TV R.T} {v:V} (h:Rl R ρ σ.top x v):∃v',Rl R ρ σ.top (xD st x) v'∧∀n,aP (n+4) σ v=aP (n+4) σ v':=by
 by_cases hx:∃f a b,x= .fn f a b
 ·obtain⟨f,a,b,rfl⟩:=hx
  obtain⟨a',b',rfl,ha,hb⟩:=h.mZ
  obtain⟨va,a1,a2⟩:=LQ hR hi ha
  obtain⟨vb,b1,b2⟩:=LQ hR hi hb
  refine⟨.fn (.func f) va vb,⟨va,vb,rfl,a1,b1⟩,fun n=> ?_⟩
  rw[Ra,Ra,a2,b2]
 ·by_cases hy:∃cs,x= .agg cs
  ·obtain⟨cs,rfl⟩:=hy
   obtain⟨l,rfl,hl⟩:=h.jM
   obtain⟨v',a1,a2⟩:=LQ hR hi hl
   refine⟨.agg v',by unfold xD;unfold Rl;exact⟨v',rfl,a1⟩,fun n=> ?_⟩
   rw[QI,QI,a2]
  ·have:xD st x=rV st x:=by cases x<;>first|rfl|exact absurd ⟨_,_,_,rfl⟩ hx|exact absurd ⟨_,rfl⟩ hy
   rw[this]
   obtain⟨v',h1,h2⟩:=X4 hR hi h
   exact⟨v',h1,fun n=>h2 (n+1)⟩
theorem F9 (hi:aG ρ b st fr σ):∀{x:List (TV R.T)} {v:List V},aA R ρ σ.top x v→∃v',aA R ρ σ.top (l7 st x) v'∧∀n,v.mapM (aP (n+4) σ)=v'.mapM (aP (n+4) σ)
 | [],v,h=>by rw[h.fP];exact⟨[],rfl,fun _=>rfl⟩
 |x::xs,v,h=>by
  obtain⟨w,ws,rfl,h1,h2⟩:=h.eD
  obtain⟨w',a1,a2⟩:=ahT hR hi h1
  obtain⟨ws',b1,b2⟩:=F9 hi h2
  exact⟨w'::ws',.cons' a1 b1,fun n=>by rw[List.mapM_cons,List.mapM_cons,a2,b2]⟩
mutual
theorem X5:∀(k:Sk) (x:oG R.T k) (tv:TV R.T) (v:V),ku k=true→pk R k tv=some x→Rl R ρ top tv v→∀n σ,dep k≤n→aP n σ v=some (encS R k x)
 |.d t,x,tv,v,_,h,hr,n,σ,hn=>by
  obtain⟨m,rfl⟩:∃m,n=m+3:=⟨n-3,by have:3≤n:=hn;omega⟩
  exact(QJ hR (show mP R t tv=some x from h) hr).2.2.1 m σ
 |.l c t,x,tv,v,_,h,hr,n,σ,hn=>by
  obtain⟨m,rfl⟩:∃m,n=m+3:=⟨n-3,by have:3≤n:=hn;omega⟩
  obtain⟨c',rfl,_⟩:=(Xi (show KY R c t tv=some x from h) hr).jY
  exact uY _ _ (ng hR _)
 |.agg l,x,tv,v,hc,h,hr,n,σ,hn=>by
  cases tv<;>first| (exact absurd (show none=some x from h) (by simp))|skip
  rename_i cs
  obtain⟨vs,rfl,hl⟩:=hr.jM
  unfold dep at hn
  obtain⟨m,rfl⟩:∃m,n=m+2:=⟨n-2,by omega⟩
  rw[Wv,pY l x cs vs (by unfold ku at hc;exact hc) h hl (m+1) σ (by omega)];rfl
 |.aK l off,x,tv,v,hc,h,hr,n,σ,hn=>by
  cases tv<;>first| (exact absurd (show none=some x from h) (by simp))|skip
  rename_i cs off'
  have h':(bif Nat.beq off' off then gD R l cs else none)=some x:=h
  obtain⟨hb,h'⟩:=dQ h'
  rw[dY hb] at hr
  obtain⟨vs,rfl,hl⟩:=hr.rZ
  unfold dep at hn
  obtain⟨m,rfl⟩:∃m,n=m+2:=⟨n-2,by omega⟩
  rw[XT,pY l x cs vs (by unfold ku at hc;exact hc) h' hl (m+1) σ (by omega)];rfl
 |.dx k e,x,tv,v,_,h,hr,n,σ,hn=>by
  cases tv<;>first| (exact absurd (show none=some x from h) (by simp))|skip
  rename_i k' e' m
  obtain⟨e1,e2,e3⟩:=QN (show zW R m=some x from h)
  subst e1;subst e2;cases e3
  obtain⟨m',rfl⟩:∃m,n=m+3:=⟨n-3,by have:3≤n:=hn;omega⟩
  rw[hr.Av]
  exact jE (Rb hR m)
 |.fn f a b,x,tv,v,hc,h,hr,n,σ,hn=>by
  cases tv<;>first| (exact absurd (show none=some x from h) (by simp))|skip
  rename_i f' a' b'
  have h':(bif Nat.beq f' f then (match gD R a a' with
   |some x=>match gD R b b' with
    |some y=>some (x,y)
    |none=>none
   |none=>none) else none)=some x:=h
  obtain⟨hb,h'⟩:=dQ h'
  rw[dY hb] at hr
  obtain⟨va,vb,rfl,ha,hbb⟩:=hr.mZ
  unfold ku at hc
  rw[Bool.and_eq_true] at hc
  unfold dep at hn
  obtain⟨m,rfl⟩:∃m,n=m+2:=⟨n-2,by omega⟩
  cases h1:gD R a a' with
  |none=>simp only[h1] at h';cases h'
  |some y=>
   cases h2:gD R b b' with
   |none=>simp only[h1,h2] at h';cases h'
   |some z=>
    simp only[h1,h2] at h';cases h'
    rw[Ra,pY a y a' va hc.1 h1 ha (m+1) σ (by omega),pY b z b' vb hc.2 h2 hbb (m+1) σ (by omega)];rfl
 |.ref _ _,_,_,_,h,_,_,_,_,_=>by simp[ku] at h
 |.cK _,_,_,_,h,_,_,_,_,_=>by simp[ku] at h
 |.dG,_,_,_,h,_,_,_,_,_=>by simp[ku] at h
 |.vw _ _,_,_,_,h,_,_,_,_,_=>by simp[ku] at h
 |.sg l,x,tv,v,_,h,hr,n,σ,hn=>by
  cases tv<;>first| (exact absurd (show none=some x from h) (by simp))|skip
  rename_i ss
  obtain⟨m,rfl⟩:∃m,n=m+1:=⟨n-1,by have:3≤n:=hn;omega⟩
  rw[hr.FY]
  show _=some (V.agg (bU (qD l x)))
  rw[Lv (show uf l ss=some x from h)]
  exact jE (Rf ss)
 |.undef,_,_,_,h,_,_,_,_,_=>by simp[ku] at h
theorem pY:∀(l:List Sk) (x:aj R.T l) (cs:List (TV R.T)) (vs:List V),iN l=true→gD R l cs=some x→aA R ρ top cs vs→∀n σ,mU l≤n→vs.mapM (aP n σ)=some (au R l x)
 | [],x,cs,vs,_,h,hr,n,σ,hn=>by
   cases cs with
   |nil=>rw[hr.fP];rfl
   |cons c cs=>exact absurd (show none=some x from h) (by simp)
 | [k],x,cs,vs,hc,h,hr,n,σ,hn=>by
   unfold iN at hc
   rw[Bool.and_eq_true] at hc
   unfold mU at hn
   cases cs with
   |nil=>exact absurd (show none=some x from h) (by simp)
   |cons c cs=>
    cases cs with
    |nil=>
     obtain⟨v,l,rfl,h1,h2⟩:=hr.eD
     rw[h2.fP,List.mapM_cons,X5 k x c v hc.1 h h1 n σ (by omega)];rfl
    |cons c' cs=>exact absurd (show none=some x from h) (by simp)
 |k::k'::l,x,cs,vs,hc,h,hr,n,σ,hn=>by
  unfold iN at hc
  rw[Bool.and_eq_true] at hc
  unfold mU at hn
  cases cs with
  |nil=>exact absurd (show none=some x from h) (by simp)
  |cons c cs=>
   have h':(match pk R k c with
    |some x=>match gD R (k'::l) cs with
     |some p=>some (x,p)
     |none=>none
    |none=>none)=some x:=h
   obtain⟨v,vs,rfl,h1,h2⟩:=hr.eD
   cases hu:pk R k c with
   |none=>simp only[hu] at h';cases h'
   |some y=>
    cases hs:gD R (k'::l) cs with
    |none=>simp only[hu,hs] at h';cases h'
    |some q=>
     simp only[hu,hs] at h'
     obtain rfl:=Option.some.inj h'
     rw[List.mapM_cons,X5 k y c v hc.1 hu h1 n σ (by omega),pY (k'::l) q cs vs hc.2 hs h2 n σ (by omega)];rfl
end
mutual
theorem Ri:∀(tv:TV R.T) (v:V),jJ tv=true→Rl R ρ top tv v→aC v=true
 |.int _ _,v,_,h=>by rw[h.fQ];exact P8 _ _
 |.bool _,v,_,h=>by rw[h.oM];exact P9 _
 |.gU _,v,_,h=>by rw[h.qH];exact P9 _
 |.str _,v,_,h=>by rw[h.lg];exact Wo _
 |.fI,v,_,h=>by unfold Rl at h;subst h;simp[aC]
 |.fu,v,_,h=>by unfold Rl at h;subst h;simp[aC]
 |.eY,v,_,h=>by unfold Rl at h;subst h;simp[aC]
 |.gN,v,_,h=>by unfold Rl at h;subst h;simp[aC]
 |.ak c t l,v,hs,h=>by
  cases c<;>simp only[jJ,Bool.false_eq_true] at hs
  obtain⟨c',rfl,hc⟩:=h.jY
  obtain rfl:c'= .sh:=hc
  exact Fw (ng hR t) l
 |.agg cs,v,hs,h=>by
  obtain⟨l,rfl,hl⟩:=h.jM
  unfold aC;exact vN cs l (by unfold jJ at hs;exact hs) hl
 |.bP cs,v,hs,h=>by
  obtain⟨l,rfl,hl⟩:=h.Lm
  unfold aC;exact vN cs l (by unfold jJ at hs;exact hs) hl
 |.dx k e m,v,_,h=>by rw[h.Av];exact Rb hR m
 |.fn f a b,v,hs,h=>by
  obtain⟨a',b',rfl,ha,hb⟩:=h.mZ
  unfold jJ at hs
  rw[Bool.and_eq_true] at hs
  unfold aC;rw[vN a a' hs.1 ha,vN b b' hs.2 hb];rfl
 |.dG,_,hs,_=>by simp[jJ] at hs
 |.ref _ _,_,hs,_=>by simp[jJ] at hs
 |.aK cs off,v,hs,h=>by
  obtain⟨l,rfl,hl⟩:=h.rZ
  unfold aC;exact vN cs l (by unfold jJ at hs;exact hs) hl
 |.vw _ _,_,hs,_=>by simp[jJ] at hs
 |.kg _ _ _ _,_,hs,_=>by simp[jJ] at hs
 |.sg ss,v,_,h=>by rw[h.FY];exact Rf ss
 |.sv _ _ _ _ _ _,_,hs,_=>by simp[jJ] at hs
 |.sel _ _ _ _ _ _,_,hs,_=>by simp[jJ] at hs
 |.pJ _ _ _ _,_,hs,_=>by simp[jJ] at hs
 |.cK _,_,hs,_=>by simp[jJ] at hs
 |.opt _ _ _,_,hs,_=>by simp[jJ] at hs
 |.undef,_,hs,_=>by simp[jJ] at hs
 |.gone,_,hs,_=>by simp[jJ] at hs
theorem vN:∀(l:List (TV R.T)) (vs:List V),nQ l=true→aA R ρ top l vs→aX vs=true
 | [],vs,_,h=>by rw[h.fP];rfl
 |x::l,vs,hs,h=>by
  obtain⟨v,ws,rfl,h1,h2⟩:=h.eD
  unfold nQ at hs
  rw[Bool.and_eq_true] at hs
  unfold aX;rw[Ri x v hs.1 h1,vN l ws hs.2 h2];rfl
end
theorem X6 {x:TV R.T} {v:V} (hs:FD x=true) (h:Rl R ρ top x v):aC (fG v)=true:=by
 have key:jJ x=true→aC (fG v)=true:=fun hs=>by
  have:=Ri hR x v hs h
  cases v with
  |ak c l=>cases c<;>simp[aC] at this<;>simpa [fG,aC] using this
  |_=>exact this
 cases x<;>first|exact key hs|skip
 ·rw[h.nT];simp[fG,aC,aX]
 ·obtain⟨c',rfl,hc⟩:=h.jY
  exact Fw (ng hR _) _
theorem X7:∀{x:List (TV R.T)} {v:List V},KX x=true→aA R ρ top x v→aX (v.map fG)=true
 | [],vs,_,h=>by rw[h.fP];rfl
 |x::l,vs,hs,h=>by
  obtain⟨v,ws,rfl,h1,h2⟩:=h.eD
  unfold KX at hs
  rw[Bool.and_eq_true] at hs
  rw[List.map_cons];unfold aX;rw[X6 hR hs.1 h1,X7 hs.2 h2];rfl
theorem ahU {x:TV R.T} {v:V} (hs:WA x=true) (h:Rl R ρ top x v):aC (er v)=true:=by
 by_cases hx:∃cs,x= .agg cs
 ·obtain⟨cs,rfl⟩:=hx
  obtain⟨l,rfl,hl⟩:=h.jM
  show aC (.agg (l.map fG))=true
  unfold aC;exact X7 hR hs hl
 ·by_cases hy:∃ss,x= .sg ss
  ·obtain⟨ss,rfl⟩:=hy
   rw[h.FY,ahR];exact Rf ss
  have hs':FD x=true:=by cases x<;>first|exact hs|exact absurd ⟨_,rfl⟩ hx
  have h1:=X6 hR hs' h
  have hne:∀cs,v≠ .agg cs:=by
   rintro cs rfl
   cases x<;>first|exact hy ⟨_,rfl⟩| (unfold Rl at h;simp at h;done)|exact hx ⟨_,rfl⟩| (simp[FD,jJ] at hs';done)
  rw[agY hne];exact h1
theorem Ga:∀{x:List (TV R.T)} {v:List V},vk x=true→aA R ρ top x v→v.all (fun a=>aC (er a))=true
 | [],vs,_,h=>by rw[h.fP];rfl
 |x::l,vs,hs,h=>by
  obtain⟨v,ws,rfl,h1,h2⟩:=h.eD
  unfold vk at hs
  rw[Bool.and_eq_true] at hs
  rw[List.all_cons,ahU hR hs.1 h1,Ga hs.2 h2];rfl
theorem Rj:∀(l:List Sk) (x:aj R.T l),zU l=true→iX (au R l x)=true
 | [],x,_=>rfl
 | [k],x,h=>by
   cases k<;>simp only[zU,Bool.and_true,Bool.false_eq_true] at h
   ·rename_i t
    show (flat (aF R t x)&& iX [])=true
    cases t<;>simp only[Qi,Bool.false_eq_true] at h<;>rfl
   ·rename_i ks
    show (flat (.agg (bU (qD ks x)))&& iX [])=true
    unfold flat;rw[LP];rfl
 |k::k'::l,x,h=>by
  cases k<;>simp only[zU,Bool.false_eq_true] at h
  ·rename_i t
   rw[Bool.and_eq_true] at h
   show (flat (aF R t x.1)&& iX (au R (k'::l) x.2))=true
   rw[Rj (k'::l) x.2 h.2]
   have:=h.1
   cases t<;>simp only[Qi,Bool.false_eq_true] at this<;>rfl
  ·rename_i ks
   show (flat (.agg (bU (qD ks x.1)))&& iX (au R (k'::l) x.2))=true
   rw[Rj (k'::l) x.2 h]
   unfold flat;rw[LP];rfl
omit hR in
theorem ahV {vs:List V} (h:iX vs=true):flat (aV vs)=true:=by
 match vs with
 | []=>simp[aV,flat,iX]
 | [v]=>simp only[iX,Bool.and_true] at h;exact h
 |v::w::vs=>show flat (.bP _)=true;unfold flat;exact h
mutual
theorem X8:∀(k:Sk) (x:oG R.T k),ku k=true→Rl R ρ top (up R .sh k x) (encS R k x)
 |.d t,x,_=>WR hR t x
 |.l c t,x,h=>by
  refine⟨.sh,rfl, ?_⟩
  cases c<;>first|trivial|rfl| (simp[ku] at h;done)
 |.agg l,x,h=>⟨_,rfl,uD l x (by unfold ku at h;exact h)⟩
 |.aK l off,x,h=>⟨_,rfl,uD l x (by unfold ku at h;exact h)⟩
 |.dx k e,x,_=>rfl
 |.fn f a b,x,h=>by
  unfold ku at h
  rw[Bool.and_eq_true] at h
  exact⟨_,_,rfl,uD a x.1 h.1,uD b x.2 h.2⟩
 |.ref _ _,_,h=>by simp[ku] at h
 |.cK _,_,h=>by simp[ku] at h
 |.dG,_,h=>by simp[ku] at h
 |.vw _ _,_,h=>by simp[ku] at h
 |.sg l,x,_=>rfl
 |.undef,_,h=>by simp[ku] at h
theorem uD:∀(l:List Sk) (x:aj R.T l),iN l=true→aA R ρ top (jV R .sh l x) (au R l x)
 | [],_,_=>rfl
 | [k],x,h=>by
   unfold iN at h
   rw[Bool.and_eq_true] at h
   exact .cons' (X8 k x h.1) rfl
 |k::k'::l,x,h=>by
  unfold iN at h
  rw[Bool.and_eq_true] at h
  exact .cons' (X8 k x.1 h.1) (uD (k'::l) x.2 h.2)
end
omit hR in
theorem ahW {x:List (TV R.T)} {v:List V} (h:aA R ρ top x v):Rl R ρ top (WG R x) (aV v):=by
 match x,h with
 | [],h=>rw[h.fP];exact⟨[],rfl,rfl⟩
 | [a],h=>
   obtain⟨v,vs,rfl,h1,h2⟩:=h.eD
   rw[h2.fP];exact h1
 |a::b::l,h=>
  obtain⟨v,vs,rfl,h1,h2⟩:=h.eD
  obtain⟨w,ws,rfl,h3,h4⟩:=h2.eD
  exact⟨_,rfl,.cons' h1 (.cons' h3 h4)⟩
def X9:List V→List V
 |_::l=>.ak .nil []::l
 | []=>[]
def aS (E:Env) (F:Nat→List (FR R)):Prop:=∀f,∀r∈F f,∀p x,r.F p=some x→(iN r.args=true→Pure E f (au R r.args p) (aV (au R r.res x)))∧
 (r.own=true→∀(τ:Ty) (h:r.res=[.d (.slice τ)]) (l:List (Den R.T τ)),(h▸x:aj R.T [.d (.slice τ)])=l→
   (iN r.args=true→E.tJ f=false∧lZ E f (au R r.args p) (cZ R τ) (l.map (aF R τ)))∧
   (iN r.args=false→E.tJ f=true∧lZ E f (X9 (au R r.args p)) (cZ R τ) (l.map (aF R τ))))
theorem Ya {F:Nat→List (FR R)} (hF:aS E F) {f:Nat} {c:Call} {fo:Operand} {o:Oper} {aB:Nat} {a' b':List V} (ho:o.op= .call c) (fK:c.callee= .value fo) (hf:fr.ev E fo= .fn (.func f) a' b') (hi:E.imp f=false) {args:List (TV R.T)}
 (ha:aA R ρ σ.top args (a'++c.args.toList.map (fr.ev E)++b')) (hi':aG ρ b st fr σ):∀{l:List (FR R)} {r:dO R},(∀x∈l,x∈F f)→findF R args (l7 st args) l=some r→pX E st ρ aB fr σ o r
 | [],r,_,h=>by cases h
 |q::l,r,hl,h=>by
  unfold findF at h
  split at h
  ·rename_i p hp
   obtain⟨hc,h⟩:=dQ h
   cases h
   simp only[Bool.and_eq_true] at hc
   obtain⟨⟨⟨c1,c2⟩,c3⟩,c4⟩:=hc
   intro x hx
   have hP:=(hF f q (hl q (by simp)) p x hx).1 c1
   obtain⟨vs',v1,v2⟩:=F9 hR hi' ha
   have Gb:=pY hR q.args p (l7 st args) _ c1 hp v1 20 σ (by have:=Nat.le_of_ble_eq_true c2;omega)
   have has:=(v2 16).trans Gb
   have hcl:((a'++c.args.toList.map (fr.ev E)++b').all (fun x=>aC (er x))||flat (aV (au R q.res x)))=true:=by
    rw[Bool.or_eq_true] at c4⊢
    rcases c4 with c4|c4
    ·exact .inl (Ga hR c4 ha)
    ·exact .inr (ahV (Rj hR _ _ c4))
   exact⟨aV (au R q.res x),⟨fun iw _ _ _ hw h'=>OW.call hw ho fK hf hi has hP hcl h' (Xw ho fK hf iw),fun iw _ _ _ _ _ hw h'=>eu.call hw ho fK hf hi has hP hcl h' (Xw ho fK hf iw)⟩,ahW (uD hR _ _ c3)⟩
  ·exact Ya hF ho fK hf hi ha hi' (fun x hx=>hl x (by simp[hx])) h
theorem ahX {t:TypeId} {x i:TV R.T} {v w:V} {r:dO R} (h:Qr E R t x i=some r) (hx:Rl R ρ top x v) (hi:Rl R ρ top i w):nu ρ top (lU E.P t v w) r:=by
 unfold Qr at h
 split at h
 ·rename_i e c u l k n hu
  split at h
  ·rename_i sz hs
   obtain⟨hb,h⟩:=dQ h
   cases h
   have:=dY hb;subst this
   obtain⟨c',rfl,_⟩:=hx.jY
   rw[hi.fQ]
   intro a ha
   refine⟨.aK (aF R u a).cells 0, ?_, ?_⟩
   ·rw[Qa,if_pos (by unfold oF;rw[hu])]
    have:iY E.P t=some e:=by unfold iY;rw[hu]
    rw[this];simp only[Option.bind_some,hs,ha]
    rw[if_pos (AV hR u a).1]
   ·unfold Rl
    refine⟨_,rfl,(uq ?_ (WR hR u a)).1⟩
    cases u<;>rfl
  ·cases h
 ·rename_i n e o off k m hu
  split at h
  ·rename_i sz hs
   cases h
   obtain⟨s,h1,rfl⟩:=hx.mY
   rw[hi.fQ]
   intro hc
   have hc':0≤m∧m<n:=of_decide_eq_true hc
   refine⟨.ref (1,o) s (off+m.toNat*sz), ?_,by unfold Rl;exact⟨s,h1,rfl⟩⟩
   unfold lU;rw[hu];dsimp only;rw[hs]
   simp[idx,kI,hc']
  ·cases h
 ·rename_i n e cs off k m hu
  split at h
  ·rename_i sz hs
   cases h
   obtain⟨l,rfl,h1⟩:=hx.rZ
   rw[hi.fQ]
   intro hc
   have hc':0≤m∧m<n:=of_decide_eq_true hc
   refine⟨.aK l (off+m.toNat*sz), ?_,by unfold Rl;exact⟨l,rfl,h1⟩⟩
   unfold lU;rw[hu];dsimp only;rw[hs]
   simp[idx,kI,hc']
  ·cases h
 ·cases h
omit hR in
theorem ahY {t:TypeId} {x i:TV R.T} {v w:V} {r:dO R} (h:Qv E R t x i=some r) (hx:Rl R ρ top x v) (hi:Rl R ρ top i w):nu ρ top (tF E.P t v w) r:=by
 unfold Qv at h
 split at h
 ·rename_i s k n hu
  cases h
  rw[hx.lg,hi.fQ]
  intro a ha
  refine⟨.int .u8 ((a.toNat:Nat):Int), ?_,by unfold Rl;rfl⟩
  rw[Wz (by unfold Fx;rw[hu]),ha];rfl
 ·cases h
end
end Aq
end
section
namespace Aq
open Go
set_option linter.unusedSectionVars false
set_option linter.unusedVariables false
section
variable {R:iM} {E:Env}
variable {ρ:aO} {top:Nat→Nat} {b aB:Nat} {st:MS R.T} {fr:Fr} {σ:ah} {o:Oper}
theorem LU {P:Program} {t e:TypeId} {n:Nat} (h:oh P t=some (n,e)):P.underlying t=some (.array n e):=by
 unfold oh at h
 split at h
 ·rename_i n' e' hu;cases h;exact hu
 ·cases h
theorem xS {t:TypeId} (h:oK E t=true):bX E.P t=some 1∧gY E.P t=some false:=by
 unfold oK at h
 split at h
 ·rename_i sz ag h1 h2
  rw[Bool.and_eq_true] at h
  rw[dY h.1] at h1
  cases ag
  ·exact⟨h1,h2⟩
  ·simp at h
 ·cases h
theorem vO (a b:List Sg):iL (a++b)=iL a+iL b:=by rw[←gF,nV,List.length_append,gF,gF]
theorem Yb {pre rest:List Sg} {n:Nat} (h:iL pre=n) (k:Nat):(bU (pre++rest)).drop (n+k)=(bU rest).drop k:=by
 rw[nV,←h,←gF,List.drop_append,List.drop_of_length_le (by omega),List.nil_append,Nat.add_sub_cancel_left]
theorem LV (s:Sg) (l:List Sg):bU (s::l)=s.vs++bU l:=rfl
theorem LW (s:Sg) (l:List Sg):iL (s::l)=s.w+iL l:=rfl
theorem Rk {ρ:aO} {top:Nat→Nat} (k:IntKind):∀l:List Int,aA R ρ top (l.map (TV.int k)) (l.map (V.int k))
 | []=>rfl
 |x::l=>.cons' (by unfold Rl;rfl) (Rk k l)
theorem ahZ {n:Nat} (v:Vec n):(List.range n).map v.nth=v.l:=by
 apply List.ext_getElem
 ·rw[List.length_map,List.length_range,v.h]
 ·intro i h1 h2
  rw[List.getElem_map,List.getElem_range]
  unfold Vec.nth
  rw[List.getD_eq_getElem?_getD,List.getElem?_eq_getElem h2];rfl
theorem Rm {ρ:aO} {top:Nat→Nat}:∀ss:List Sg,aA R ρ top (FN ss) (bU ss)
 | []=>rfl
 |.i k x::l=>.cons' (by unfold Rl;rfl) (Rm l)
 |.a k n v::l=>by
  show aA R ρ top ((List.range n).map (fun j=>TV.int k (v.nth j))++FN l) (v.l.map (V.int k)++bU l)
  refine aA.append ?_ (Rm l)
  have:(List.range n).map (fun j=>TV.int (T:=R.T) k (v.nth j))=v.l.map (TV.int k):=by
   rw[←ahZ v,List.map_map];rfl
  rw[this]
  exact Rk k v.l
theorem Yc {t:TypeId} {ss:List Sg} {off:Nat} {v:TV R.T} (h:Lf E R t ss off=some v):∃y,fJ E.P t (bU ss) off=some y∧Rl R ρ top v y:=by
 unfold Lf at h
 split at h
 ·rename_i pre rest sz ag h1 h2 h3
  obtain⟨e1,w1⟩:=qI h1
  split at h
  ·rename_i mid post h4
   obtain⟨e2,w2⟩:=qI h4
   have hd:(bU ss).drop off=bU mid++bU post:=by
    have:=Yb (rest:=rest) w1 0
    rw[←e1,Nat.add_zero] at this
    rw[this,e2,nV];rfl
   have hlen:(bU ss).length=off+(sz+iL post):=by rw[gF,e1,vO,w1,e2,vO,w2]
   unfold fJ;rw[h3,h2];simp only[Option.bind_some]
   cases ag with
   |true=>
    rw[cond_true] at h
    have hp:lT true sz (bU ss) off=some (.agg (bU mid)):=by
     unfold lT;rw[if_pos rfl,if_pos (by omega),hd,List.take_append_of_le_length (by rw[gF,w2];exact Nat.le_refl _),List.take_of_length_le (by rw[gF,w2];exact Nat.le_refl _)]
    split at h
    ·cases h;exact⟨_,hp,by unfold Rl;rfl⟩
    ·cases h;exact⟨_,hp,by unfold Rl;exact⟨_,rfl,Rm mid⟩⟩
   |false=>
    rw[cond_false] at h
    split at h
    ·rename_i k x
     cases h
     refine⟨.int k x, ?_,by unfold Rl;rfl⟩
     unfold lT;simp only[Bool.false_eq_true,if_false]
     have:=congrArg (fun l=>l[0]?) hd
     rw[List.getElem?_drop,Nat.add_zero] at this
     rw[this];rfl
    ·cases h
  ·cases h
 ·cases h
theorem Yd {n:Nat} (v:Vec n) {i:Int} (h:i.toNat<n):v.l[i.toNat]? =some (v.at' i):=by
 unfold Vec.at'
 rw[List.getD_eq_getElem?_getD,List.getElem?_eq_getElem (by rw[v.h];exact h)];rfl
theorem Ye {ss pre post:List Sg} {off n:Nat} {k:IntKind} {v:Vec n} {i:Int} {t:TypeId} (h:mR ss off=some (pre,.a k n v::post)) (hi:i.toNat<n) (ht:oK E t=true):fJ E.P t (bU ss) (off+i.toNat)=some (.int k (v.at' i)):=by
 obtain⟨e1,w1⟩:=qI h
 obtain⟨h1,h2⟩:=xS ht
 unfold fJ;rw[h1,h2];simp only[Option.bind_some]
 unfold lT;simp only[Bool.false_eq_true,if_false]
 rw[e1,nV,List.getElem?_append_right (by rw[gF,w1];omega),gF,w1,Nat.add_sub_cancel_left,LV,List.getElem?_append_left (by rw[Sg.len];exact hi)]
 show (v.l.map (V.int k))[i.toNat]? =_
 rw[List.getElem?_map,Yd v hi];rfl
theorem Rn {n:Nat} {l:List Int} (h:l.length=n):(Vec.lit n l).l=l:=by
 unfold Vec.lit;rw[dif_pos h]
theorem ah0 {l:List Int} {a m:Nat} (h:a+m≤l.length):(List.range m).map (fun j=>l.getD (a+j) 0)=(l.drop a).take m:=by
 apply List.ext_getElem
 ·rw[List.length_map,List.length_range,List.length_take,List.length_drop];omega
 ·intro i h1 h2
  rw[List.length_map,List.length_range] at h1
  rw[List.getElem_map,List.getElem_range,List.getElem_take,List.getElem_drop,List.getD_eq_getElem?_getD,List.getElem?_eq_getElem (by omega)];rfl
theorem ah1 {t:TypeId} {ss pre post:List Sg} {off n m:Nat} {k:IntKind} {v:Vec n} {i:Int} {y:TV R.T} (h:mR ss off=some (pre,.a k n v::post)) (hi:i.toNat+m≤n) (hs:Qw E R t k m n v i=some y):∃x,fJ E.P t (bU ss) (off+i.toNat)=some x∧Rl R ρ top y x:=by
 obtain⟨e1,w1⟩:=qI h
 unfold Qw at hs
 split at hs
 ·rename_i m' e sz h1 h2 h3
  obtain⟨hc,hs⟩:=dQ hs
  rw[Bool.and_eq_true] at hc
  have e2:=dY hc.1;have e3:=dY hc.2
  rw[e3] at h2
  have hp:fJ E.P t (bU ss) (off+i.toNat)=some (.agg (((v.l.drop i.toNat).take m).map (V.int k))):=by
   unfold fJ;rw[h3,h2];simp only[Option.bind_some]
   unfold lT
   rw[if_pos rfl,if_pos (by rw[gF,e1,vO,w1,LW];show off+i.toNat+m≤off+(n+_);omega)]
   rw[e1,Yb w1,LV]
   show some (V.agg ((((v.l.map (V.int k))++bU post).drop i.toNat).take m))=_
   rw[List.drop_append_of_le_length (by rw[List.length_map,v.h];omega),List.take_append_of_le_length (by rw[List.length_drop,List.length_map,v.h];omega),List.map_take,List.map_drop]
  refine⟨_,hp, ?_⟩
  have hl:((v.l.drop i.toNat).take m).length=m:=by rw[List.length_take,List.length_drop,v.h];omega
  split at hs
  ·cases hs
   unfold Rl
   show V.agg _= .agg (((v.slc i m).l.map (V.int k))++[])
   unfold Vec.slc
   rw[Rn hl,List.append_nil]
  ·cases hs
   unfold Rl
   refine⟨_,rfl, ?_⟩
   have:=ah0 (l:=v.l) (a:=i.toNat) (m:=m) (by rw[v.h];exact hi)
   have e:(List.range m).map (fun j=>TV.int (T:=R.T) k (v.nth (i.toNat+j)))=((v.l.drop i.toNat).take m).map (TV.int k):=by
    rw[←this,List.map_map];rfl
   rw[e];exact Rk k _
 ·cases hs
def kW:List iZ→Nat
 | []=>0
 |.i _::l=>1+kW l
 |.a _ n::l=>n+kW l
theorem LX:∀ss:List Sg,kW (ss.map Sg.sk)=iL ss
 | []=>rfl
 |.i k x::l=>by show 1+kW (l.map Sg.sk)=1+iL l;rw[LX l]
 |.a k n v::l=>by show n+kW (l.map Sg.sk)=n+iL l;rw[LX l]
theorem ah2:∀{ks:List iZ} {cs:List (TV R.T)} {ss:List Sg} {vs:List V},vC ks cs=some ss→aA R ρ top cs vs→vs=bU ss∧iL ss=kW ks:=by
 intro ks
 induction ks with
 |nil=>
  intro cs ss vs h hr
  cases cs with
  |nil=>cases h;exact⟨hr.fP,rfl⟩
  |cons c cs=>cases h
 |cons k ks ih=>
  intro cs ss vs h hr
  cases k with
  |i k=>
   cases cs with
   |nil=>cases h
   |cons c cs=>
    obtain⟨v,ws,rfl,h1,h2⟩:=hr.eD
    cases c<;>first| (exact absurd (show none=some ss from h) (by simp))|skip
    rename_i k' x
    have h':(if k'=k then (match vC ks cs with
     |some r=>some (Sg.i k x::r)
     |none=>none) else none)=some ss:=h
    by_cases e:k'=k
    ·subst e
     rw[if_pos rfl] at h'
     cases hc:vC ks cs with
     |none=>rw[hc] at h';cases h'
     |some r=>
      rw[hc] at h';cases h'
      obtain⟨g1,g2⟩:=ih hc h2
      exact⟨by rw[h1.fQ,g1];rfl,by show 1+iL r=1+kW ks;rw[g2]⟩
    ·rw[if_neg e] at h';cases h'
  |a k n=>
   have h':(match xC k (cs.take n) with
    |some xs=>bif Nat.beq xs.length n then (match vC ks (cs.drop n) with
     |some r=>some (Sg.a k n (Vec.lit n xs)::r)
     |none=>none) else none
    |none=>none)=some ss:=by cases cs<;>exact h
   cases hx:xC k (cs.take n) with
   |none=>rw[hx] at h';cases h'
   |some xs=>
    rw[hx] at h'
    dsimp only at h'
    obtain⟨hb,h'⟩:=dQ h'
    have hb:=dY hb
    cases hc:vC ks (cs.drop n) with
    |none=>rw[hc] at h';cases h'
    |some r=>
     rw[hc] at h';cases h'
     obtain⟨g1,g2⟩:=ih hc (hr.drop n)
     have g3:=Rh hx (hr.take n)
     refine⟨?_,by show n+iL r=n+kW ks;rw[g2]⟩
     show vs=(Vec.lit n xs).l.map (V.int k)++bU r
     rw[Rn hb,←g3,←g1,List.take_append_drop]
theorem Ro:∀{a b:List iZ},Ak a b=true→a=b
 | [],[],_=>rfl
 |.i k::l,.i k'::l',h=>by
  have h':((if k=k' then true else false)&& Ak l l')=true:=h
  rw[Bool.and_eq_true] at h'
  have e:k=k':=by by_cases e:k=k';exact e;rw[if_neg e] at h';cases h'.1
  rw[e,Ro h'.2]
 |.a k n::l,.a k' n'::l',h=>by
  have h':((if k=k' then true else false)&& Nat.beq n n'&& Ak l l')=true:=h
  rw[Bool.and_eq_true,Bool.and_eq_true] at h'
  have e:k=k':=by by_cases e:k=k';exact e;rw[if_neg e] at h';cases h'.1.1
  rw[e,dY h'.1.2,Ro h'.2]
 | [],.i _::_,h=>by cases h
 | [],.a _ _::_,h=>by cases h
 |.i _::_,[],h=>by cases h
 |.a _ _::_,[],h=>by cases h
 |.i _::_,.a _ _::_,h=>by cases h
 |.a _ _::_,.i _::_,h=>by cases h
theorem Gc:∀ss:List Sg,bL (bU ss)=true
 | []=>rfl
 |.i k x::l=>by show (oneCell (.int k x)&& bL (bU l))=true;rw[Gc l];rfl
 |.a k n v::l=>by
  show bL (v.l.map (V.int k)++bU l)=true
  have h1:=Gc l
  unfold bL at h1⊢
  rw[List.all_append,h1,List.all_map];simp[oneCell]
theorem Yf {ks:List iZ} {tv:TV R.T} {ss:List Sg} {v:V} (h:Le ks tv=some ss) (hr:Rl R ρ top tv v):v.cells=bU ss∧iL ss=kW ks∧dN v=true:=by
 unfold Le at h
 split at h
 ·rename_i ss'
  obtain⟨h1,h⟩:=dQ h
  cases h
  rw[hr.FY,Ro h1]
  exact⟨rfl,(LX ss).symm,rfl⟩
 ·obtain⟨l,rfl,hl⟩:=hr.jM
  obtain⟨h1,h2⟩:=ah2 h hl
  exact⟨h1,h2,rfl⟩
 ·rename_i k x
  split at h
  ·split at h
   ·rename_i e;subst e;cases h
    rw[hr.fQ];exact⟨rfl,rfl,rfl⟩
   ·cases h
  ·cases h
 ·cases h
theorem Rp {k:IntKind}:∀{cs:List (TV R.T)} {vs:List V},xH k cs=true→aA R ρ top cs vs→vs=List.replicate cs.length (V.int k 0)
 | [],vs,_,hr=>hr.fP
 |c::cs,vs,h,hr=>by
  obtain⟨v,ws,rfl,h1,h2⟩:=hr.eD
  cases c<;>first| (exact absurd (show false=true from h) (by simp))|skip
  rename_i k' x
  have h':((if k'=k then (if x=0 then true else false) else false)&& xH k cs)=true:=h
  rw[Bool.and_eq_true] at h'
  have e1:k'=k:=by by_cases e:k'=k;exact e;rw[if_neg e] at h';cases h'.1
  have e2:x=0:=by by_cases e:x=0;exact e;rw[if_pos e1,if_neg e] at h';cases h'.1
  rw[h1.fQ,e1,e2,Rp h'.2 h2];rfl
theorem ah3:∀{ks:List iZ} {cs:List (TV R.T)} {vs:List V},Aj ks cs=true→aA R ρ top cs vs→vs=bU (ks.map Ld):=by
 intro ks
 induction ks with
 |nil=>
  intro cs vs h hr
  cases cs with
  |nil=>exact hr.fP
  |cons c cs=>cases h
 |cons k ks ih=>
  intro cs vs h hr
  cases k with
  |i k=>
   cases cs with
   |nil=>cases h
   |cons c cs=>
    obtain⟨v,ws,rfl,h1,h2⟩:=hr.eD
    have h':(xH k [c]&& Aj ks cs)=true:=h
    rw[Bool.and_eq_true] at h'
    have:=Rp h'.1 (aA.cons' h1 aA.nil')
    cases this
    rw[ih h'.2 h2];rfl
  |a k n=>
   have h':(Nat.ble n cs.length&& xH k (cs.take n)&& Aj ks (cs.drop n))=true:=by cases cs<;>exact h
   rw[Bool.and_eq_true,Bool.and_eq_true] at h'
   have h1:=Nat.le_of_ble_eq_true h'.1.1
   have h2:=Rp h'.1.2 (hr.take n)
   have h3:=ih h'.2 (hr.drop n)
   rw[←List.take_append_drop n vs,h2,h3,List.length_take,Nat.min_eq_left h1]
   show _=(List.replicate n (0:Int)).map (V.int k)++bU (ks.map Ld)
   rw[List.map_replicate]
theorem ah4 {pre mid post mid':List Sg} {off sz:Nat} (h1:iL pre=off) (h2:iL mid=sz) (h3:iL mid'=sz):fB (bU (pre++(mid++post))) off (bU mid')=bU (pre++(mid'++post)):=by
 unfold fB
 rw[nV,nV,nV,nV,gF,h3]
 rw[List.take_append_of_le_length (by rw[gF,h1];exact Nat.le_refl _),List.take_of_length_le (by rw[gF,h1];exact Nat.le_refl _)]
 rw[←List.append_assoc (bU pre) (bU mid),List.drop_append_of_le_length (by rw[List.length_append,gF,gF,h1,h2];exact Nat.le_refl _),List.drop_of_length_le (by rw[List.length_append,gF,gF,h1,h2];exact Nat.le_refl _)]
 rw[List.nil_append,List.append_assoc]
theorem Yg {pre post:List Sg} {off n a:Nat} {k:IntKind} {v w:Vec n} {l:List Int} (h1:iL pre=off) (h2:a+l.length≤n) (h3:w.l=v.l.take a++l++v.l.drop (a+l.length)):fB (bU (pre++(.a k n v::post))) (off+a) (l.map (V.int k))=bU (pre++(.a k n w::post)):=by
 unfold fB
 rw[nV,nV,LV,LV]
 show ((bU pre++(v.l.map (V.int k)++bU post)).take (off+a)++l.map (V.int k)++(bU pre++(v.l.map (V.int k)++bU post)).drop (off+a+(l.map (V.int k)).length))=bU pre++(w.l.map (V.int k)++bU post)
 have hp:(bU pre).length=off:=by rw[gF,h1]
 have hv:(v.l.map (V.int k)).length=n:=by rw[List.length_map,v.h]
 rw[List.length_map]
 rw[List.take_append,List.take_of_length_le (by omega),hp,Nat.add_sub_cancel_left,List.take_append_of_le_length (by omega)]
 rw[List.drop_append,List.drop_of_length_le (by omega),hp,List.nil_append,show off+a+l.length-off=a+l.length by omega,List.drop_append_of_le_length (by omega)]
 rw[h3,List.map_append,List.map_append,List.map_take,List.map_drop]
 simp only[List.append_assoc]
theorem ah5 {l:List Int} {a:Nat} {y:Int} (h:a<l.length):l.set a y=l.take a++[y]++l.drop (a+1):=by
 rw[List.set_eq_take_append_cons_drop,if_pos h];simp
theorem Rq {g:Nat} {t:TypeId} {k:IntKind} {n:Nat} {v:Vec n} (h:Lh E R g t=some ⟨k,n,v⟩):∃cs e,E.glob g=some cs∧cs=v.l.map (V.int k)∧oh E.P t=some (n,e)∧bX E.P t=some n∧gY E.P t=some true∧oK E e=true:=by
 unfold Lh at h
 split at h
 ·rename_i cs k' n' v' m e sz ag h1 h2 h3 h4 h5
  obtain⟨hc,h⟩:=dQ h
  cases h
  simp only[Bool.and_eq_true] at hc
  obtain⟨⟨⟨⟨c1,c2⟩,c3⟩,c4⟩,c5⟩:=hc
  subst c1
  rw[dY c2] at h3;rw[dY c3] at h4
  refine⟨cs,e,h1, ?_,h3,h4,h5,c4⟩
  have key:∀(cs:List V) (l:List Int),Lg k cs l=true→cs=l.map (V.int k):=by
   intro cs
   induction cs with
   |nil=>intro l h;cases l with
    |nil=>rfl
    |cons y l=>cases h
   |cons c cs ih=>
    intro l h
    cases l with
    |nil=>cases c<;>cases h
    |cons y l=>
     cases c<;>first| (exact absurd (show false=true from h) (by simp))|skip
     rename_i k' x
     have h':((if k'=k then (if x=y then true else false) else false)&& Lg k cs l)=true:=h
     rw[Bool.and_eq_true] at h'
     have e1:k'=k:=by by_cases e:k'=k;exact e;rw[if_neg e] at h';cases h'.1
     have e2:x=y:=by by_cases e:x=y;exact e;rw[if_pos e1,if_neg e] at h';cases h'.1
     rw[e1,e2,ih l h'.2];rfl
  exact key cs v.l c5
 ·cases h
theorem LY {i:Int} {n:Nat} (h:eO i n=true):0≤i∧i<n∧i.toNat<n:=by
 have:=of_decide_eq_true h
 omega
theorem Rs {k:IntKind} {i:Int} {n:Nat} (h:eO i n=true):idx (.int k i) n=some i.toNat:=by
 obtain⟨h1,h2,_⟩:=LY h
 simp[idx,kI,h1,h2]
theorem LZ {k:IntKind} {i:Int} {n:Nat} (h1:0≤i) (h2:i≤n):bnd (.int k i) n=some i.toNat:=by
 simp[bnd,kI,h1,h2]
theorem ah6 {n:Nat} {lo hi:Option Int} {vl vh:Option V} (hl:(lo=none∧vl=none)∨∃n k,lo=some n∧vl=some (.int k n)) (hh:(hi=none∧vh=none)∨∃n k,hi=some n∧vh=some (.int k n)) (hb:mV n lo hi=true):
 jR n n vl vh none=some ((dH lo).toNat,(fO n hi).toNat,n):=by
 rcases hl with ⟨rfl,rfl⟩| ⟨a,k,rfl,rfl⟩<;>rcases hh with ⟨rfl,rfl⟩| ⟨c,k',rfl,rfl⟩<;>simp only[mV,decide_eq_true_eq] at hb
 ·simp[jR,dH,fO]
 ·simp[jR,dH,fO,LZ hb.1 hb.2]
 ·simp[jR,dH,fO,LZ (i:=a) (n:=n) hb.1 (by omega)]
 ·simp[jR,dH,fO,LZ (i:=c) (n:=n) (by omega) hb.2.2.1,LZ (i:=a) (n:=c.toNat) hb.1 (by omega)]
theorem ah7 {P:Program} {t e:TypeId} {y:V} {ys cs:List V} {loc:Aq.Loc} {s off len cap:Nat} {ag:Bool} (he:iY P t=some e) (z1:bX P e=some 1) (z2:gY P e=some false) (q2:tH y=false) (q1:jG σ false 1 ay y=some ys) (hone:ys.all (fun v=>bL v.cells)=true)
 (h4:σ.cu loc s=some cs) (hb:off+min ys.length len≤cs.length):copyV P σ t (.vw loc s off len cap 1 ag) y=some (.int .i64 (min ys.length len:Nat),σ.setObj loc s (.cells (fB cs off ((ys.take (min ys.length len)).flatMap V.cells)))):=by
 unfold copyV
 rw[he];simp only[Option.bind_some,z1,z2]
 rw[if_pos ⟨q2,rfl⟩,q1];simp only[Option.bind_some]
 rw[if_pos hone,h4];simp only[Option.bind_some]
 rw[if_pos ⟨trivial,by rw[Nat.mul_one];exact hb⟩]
theorem L6 {t:TypeId} {x:TV R.T} {lo hi:Option (TV R.T)} {v:V} {vl vh:Option V} {r:dO R} (h:vD E R t x lo hi st=some r) (hx:Rl R ρ σ.top x v) (him:aG ρ b st fr σ)
 (hl:∀y,lo=some y→∃w,vl=some w∧Rl R ρ σ.top y w) (hln:lo=none→vl=none) (hh:∀y,hi=some y→∃w,vh=some w∧Rl R ρ σ.top y w) (hhn:hi=none→vh=none):nu ρ σ.top (kS E.P σ t v vl vh none) r:=by
 unfold vD at h
 split at h
 ·rename_i p off lo' hi' n e e1 e2 ha
  have b1:=LB e1 hl hln
  have b2:=LB e2 hh hhn
  obtain⟨hel,h⟩:=dQ h
  obtain⟨z1,z2⟩:=xS hel
  obtain⟨s,h1,rfl⟩:=hx.mY
  have fin:∀(k:IntKind) (cs:List V),σ.cu (1,p) s=some cs→off+n≤cs.length→mV n lo' hi'=true→∃y,kS E.P σ t (.ref (1,p) s off) vl vh none=some y∧Rl R ρ σ.top (.sv p off k n lo' hi') y:=by
   intro k cs hc hlen hB
   obtain⟨p1,p2,p3,_,_⟩:=xR hB
   refine⟨_, ?_,by unfold Rl;exact⟨s,h1,hB,rfl⟩⟩
   unfold kS
   rw[LU ha];dsimp only
   rw[z1,z2,ah6 b1 b2 hB,hc]
   simp only[Option.bind_some,Nat.mul_one]
   rw[if_pos hlen,if_neg (by omega)]
  split at h
  ·rename_i ss hl'
   obtain⟨s',h3,h4⟩:=him.rd hl'
   rw[h1] at h3;cases h3
   split at h
   ·rename_i pre k n' v' post hsp
    obtain⟨hb,h⟩:=dQ h
    have:=dY hb;subst this
    cases h
    obtain⟨e3,hw⟩:=qI hsp
    intro hc
    exact fin k _ h4 (by rw[gF,e3,vO,hw,LW];show off+n'≤off+(n'+_);omega) hc
   ·cases h
  ·rename_i cs hl'
   obtain⟨s',vs,h3,h4,h5⟩:=him.rd hl'
   rw[h1] at h3;cases h3
   split at h
   ·rename_i k _ _ _
    obtain⟨hb,h⟩:=dQ h
    cases h
    intro hc
    exact fin k _ h4 (by rw[h5.length];exact Nat.le_of_ble_eq_true hb) hc
   ·cases h
  ·cases h
 ·cases h
end
end Aq
end
