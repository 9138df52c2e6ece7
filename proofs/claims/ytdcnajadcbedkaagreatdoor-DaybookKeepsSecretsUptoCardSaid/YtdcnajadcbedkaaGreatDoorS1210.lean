/- Part of the proof of a law. -/
import Derived.Test.YtdcnajadcbedkaaGreatDoorS1209
set_option linter.all false
section
namespace Aq
open Go
section
variable {R:iH} {E:Env}
variable {ρ:aN} {top:Nat->Nat} {b ay:Nat} {st:MS R.T} {fr:Fr} {σ:ah} {o:Oper}
theorem GI {P:Program} {t e:TypeId} {n:Nat} (h:qy P t=some (n,e)):P.underlying t=some (.array n e):=by
 unfold qy at h
 split at h
 ·rename_i n' e' hu;cases h;exact hu
 ·cases h
theorem yh {t:TypeId} (h:pW E t=true):cO E.P t=some 1/\jl E.P t=some false:=by
 unfold pW at h
 split at h
 ·rename_i sz ag h1 h2
  rw[aan] at h
  rw[d9 h.1] at h1
  cases ag
  ·exact⟨h1,h2⟩
  ·simp at h
 ·cases h
theorem yj (a b:List Sg):je (a++b)=je a+je b:=by rw[<-gL,qb,iP,gL,gL]
theorem Zr {pre rest:List Sg} {n:Nat} (h:je pre=n) (k:Nat):(bN (pre++rest)).drop (n+k)=(bN rest).drop k:=by
 rw[qb,<-h,<-gL,amd,amm (by omega),List.nil_append,al7]
theorem Md (s:Sg) (l:List Sg):bN (s::l)=s.vs++bN l:=rfl
theorem Me (s:Sg) (l:List Sg):je (s::l)=s.w+je l:=rfl
theorem Tc {ρ:aN} {top:Nat->Nat} (k:IntKind):∀l:List Int,au R ρ top (l.map (TV.int k)) (l.map (V.int k))
 | []=>rfl
 |x::l=>.cons' (by unfold Rl;rfl) (Tc k l)
theorem ai5 {n:Nat} (v:Vec n):(List.range n).map v.nth=v.l:=by
 apply List.ext_getElem
 ·rw[aau,amh,v.h]
 ·intro i h1 h2
  rw[al3,al4]
  unfold Vec.nth
  rw[adH,acR h2];rfl
theorem Td {ρ:aN} {top:Nat->Nat}:∀ss:List Sg,au R ρ top (Gh ss) (bN ss)
 | []=>rfl
 |.i k x::l=>.cons' (by unfold Rl;rfl) (Td l)
 |.a k n v::l=>by
  show au R ρ top ((List.range n).map (fun j=>TV.int k (v.nth j))++Gh l) (v.l.map (V.int k)++bN l)
  refine au.append ?_ (Td l)
  have:(List.range n).map (fun j=>TV.int (T:=R.T) k (v.nth j))=v.l.map (TV.int k):=by
   rw[<-ai5 v,aj1];rfl
  rw[this]
  exact Tc k v.l
theorem Zt {t:TypeId} {ss:List Sg} {off:Nat} {v:TV R.T} (h:Lr E R t ss off=some v):∃y,gK E.P t (bN ss) off=some y/\Rl R ρ top v y:=by
 unfold Lr at h
 split at h
 ·rename_i pre rest sz ag h1 h2 h3
  obtain⟨e1,w1⟩:=tN h1
  split at h
  ·rename_i mid post h4
   obtain⟨e2,w2⟩:=tN h4
   have hd:(bN ss).drop off=bN mid++bN post:=by
    have:=Zr (rest:=rest) w1 0
    rw[<-e1,Nat.add_zero] at this
    rw[this,e2,qb];rfl
   have hlen:(bN ss).length=off+(sz+je post):=by rw[gL,e1,yj,w1,e2,yj,w2]
   unfold gK;rw[h3,h2];simp only[Option.bind_some]
   cases ag with
   |true=>
    rw[cond_true] at h
    have hp:nJ true sz (bN ss) off=some (.agg (bN mid)):=by
     unfold nJ;rw[if_pos rfl,if_pos (by omega),hd,amg (by rw[gL,w2];exact RS _),agk (by rw[gL,w2];exact RS _)]
    split at h
    ·cases h;exact⟨_,hp,by unfold Rl;rfl⟩
    ·cases h;exact⟨_,hp,by unfold Rl;exact⟨_,rfl,Td mid⟩⟩
   |false=>
    rw[cond_false] at h
    split at h
    ·rename_i k x
     cases h
     refine⟨.int k x, ?_,by unfold Rl;rfl⟩
     unfold nJ;simp only[aap,if_false]
     have:=congrArg (fun l=>l[0]?) hd
     rw[List.getElem?_drop,Nat.add_zero] at this
     rw[this];rfl
    ·cases h
  ·cases h
 ·cases h
theorem Zu {n:Nat} (v:Vec n) {i:Int} (h:i.toNat<n):v.l[i.toNat]? =some (v.at' i):=by
 unfold Vec.at'
 rw[adH,acR (by rw[v.h];exact h)];rfl
theorem Zv {ss pre post:List Sg} {off n:Nat} {k:IntKind} {v:Vec n} {i:Int} {t:TypeId} (h:oG ss off=some (pre,.a k n v::post)) (hi:i.toNat<n) (ht:pW E t=true):gK E.P t (bN ss) (off+i.toNat)=some (.int k (v.at' i)):=by
 obtain⟨e1,w1⟩:=tN h
 obtain⟨h1,h2⟩:=yh ht
 unfold gK;rw[h1,h2];simp only[Option.bind_some]
 unfold nJ;simp only[aap,if_false]
 rw[e1,qb,List.getElem?_append_right (by rw[gL,w1];omega),gL,w1,al7,Md,amk (by rw[Sg.len];exact hi)]
 show (v.l.map (V.int k))[i.toNat]? =_
 rw[List.getElem?_map,Zu v hi];rfl
theorem GJ {n:Nat} {l:List Int} (h:l.length=n):(Vec.lit n l).l=l:=by
 unfold Vec.lit;rw[dif_pos h]
theorem ai6 {l:List Int} {a m:Nat} (h:a+m<=l.length):(List.range m).map (fun j=>l.getD (a+j) 0)=(l.drop a).take m:=by
 apply List.ext_getElem
 ·rw[aau,amh,ads,aft];omega
 ·intro i h1 h2
  rw[aau,amh] at h1
  rw[al3,al4,List.getElem_take,List.getElem_drop,adH,acR (by omega)];rfl
theorem ai7 {t:TypeId} {ss pre post:List Sg} {off n m:Nat} {k:IntKind} {v:Vec n} {i:Int} {y:TV R.T} (h:oG ss off=some (pre,.a k n v::post)) (hi:i.toNat+m<=n) (hs:RV E R t k m n v i=some y):∃x,gK E.P t (bN ss) (off+i.toNat)=some x/\Rl R ρ top y x:=by
 obtain⟨e1,w1⟩:=tN h
 unfold RV at hs
 split at hs
 ·rename_i m' e sz h1 h2 h3
  obtain⟨hc,hs⟩:=dO hs
  rw[aan] at hc
  have e2:=d9 hc.1;have e3:=d9 hc.2
  rw[e3] at h2
  have hp:gK E.P t (bN ss) (off+i.toNat)=some (.agg (((v.l.drop i.toNat).take m).map (V.int k))):=by
   unfold gK;rw[h3,h2];simp only[Option.bind_some]
   unfold nJ
   rw[if_pos rfl,if_pos (by rw[gL,e1,yj,w1,Me];show off+i.toNat+m<=off+(n+_);omega)]
   rw[e1,Zr w1,Md]
   show some (V.agg ((((v.l.map (V.int k))++bN post).drop i.toNat).take m))=_
   rw[anW (by rw[aau,v.h];omega),amg (by rw[aft,aau,v.h];omega),List.map_take,List.map_drop]
  refine⟨_,hp, ?_⟩
  have hl:((v.l.drop i.toNat).take m).length=m:=by rw[ads,aft,v.h];omega
  split at hs
  ·cases hs
   unfold Rl
   show V.agg _= .agg (((v.slc i m).l.map (V.int k))++[])
   unfold Vec.slc
   rw[GJ hl,aeX]
  ·cases hs
   unfold Rl
   refine⟨_,rfl, ?_⟩
   have:=ai6 (l:=v.l) (a:=i.toNat) (m:=m) (by rw[v.h];exact hi)
   have e:(List.range m).map (fun j=>TV.int (T:=R.T) k (v.nth (i.toNat+j)))=((v.l.drop i.toNat).take m).map (TV.int k):=by
    rw[<-this,aj1];rfl
   rw[e];exact Tc k _
 ·cases hs
def kW:List jo->Nat
 | []=>0
 |.i _::l=>1+kW l
 |.a _ n::l=>n+kW l
theorem Mf:∀ss:List Sg,kW (ss.map Sg.sk)=je ss
 | []=>rfl
 |.i k x::l=>by show 1+kW (l.map Sg.sk)=1+je l;rw[Mf l]
 |.a k n v::l=>by show n+kW (l.map Sg.sk)=n+je l;rw[Mf l]
theorem ai8:∀{ks:List jo} {cs:List (TV R.T)} {ss:List Sg} {vs:List V},xQ ks cs=some ss->au R ρ top cs vs->vs=bN ss/\je ss=kW ks:=by
 intro ks
 induction ks with
 |nil=>
  intro cs ss vs h hr
  cases cs with
  |nil=>cases h;exact⟨hr.fB,rfl⟩
  |cons c cs=>cases h
 |cons k ks ih=>
  intro cs ss vs h hr
  cases k with
  |i k=>
   cases cs with
   |nil=>cases h
   |cons c cs=>
    obtain⟨v,ws,rfl,h1,h2⟩:=hr.dN
    cases c<;>first| (exact absurd (show none=some ss from h) (by simp))|skip
    rename_i k' x
    have h':(if k'=k then (match xQ ks cs with
     |some r=>some (Sg.i k x::r)
     |none=>none) else none)=some ss:=h
    by_cases e:k'=k
    ·subst e
     rw[if_pos rfl] at h'
     cases hc:xQ ks cs with
     |none=>rw[hc] at h';cases h'
     |some r=>
      rw[hc] at h';cases h'
      obtain⟨g1,g2⟩:=ih hc h2
      exact⟨by rw[h1.fZ,g1];rfl,by show 1+je r=1+kW ks;rw[g2]⟩
    ·rw[if_neg e] at h';cases h'
  |a k n=>
   have h':(match xH k (cs.take n) with
    |some xs=>bif Nat.beq xs.length n then (match xQ ks (cs.drop n) with
     |some r=>some (Sg.a k n (Vec.lit n xs)::r)
     |none=>none) else none
    |none=>none)=some ss:=by cases cs<;>exact h
   cases hx:xH k (cs.take n) with
   |none=>rw[hx] at h';cases h'
   |some xs=>
    rw[hx] at h'
    dsimp only at h'
    obtain⟨hb,h'⟩:=dO h'
    have hb:=d9 hb
    cases hc:xQ ks (cs.drop n) with
    |none=>rw[hc] at h';cases h'
    |some r=>
     rw[hc] at h';cases h'
     obtain⟨g1,g2⟩:=ih hc (hr.drop n)
     have g3:=L8 hx (hr.take n)
     refine⟨?_,by show n+je r=n+kW ks;rw[g2]⟩
     show vs=(Vec.lit n xs).l.map (V.int k)++bN r
     rw[GJ hb,<-g3,<-g1,aga]
theorem Te:∀{a b:List jo},CG a b=true->a=b
 | [],[],_=>rfl
 |.i k::l,.i k'::l',h=>by
  have h':((if k=k' then true else false)&& CG l l')=true:=h
  rw[aan] at h'
  have e:k=k':=by by_cases e:k=k';exact e;rw[if_neg e] at h';cases h'.1
  rw[e,Te h'.2]
 |.a k n::l,.a k' n'::l',h=>by
  have h':((if k=k' then true else false)&& Nat.beq n n'&& CG l l')=true:=h
  rw[aan,aan] at h'
  have e:k=k':=by by_cases e:k=k';exact e;rw[if_neg e] at h';cases h'.1.1
  rw[e,d9 h'.1.2,Te h'.2]
 | [],.i _::_,h=>by cases h
 | [],.a _ _::_,h=>by cases h
 |.i _::_,[],h=>by cases h
 |.a _ _::_,[],h=>by cases h
 |.i _::_,.a _ _::_,h=>by cases h
 |.a _ _::_,.i _::_,h=>by cases h
theorem GK:∀ss:List Sg,bC (bN ss)=true
 | []=>rfl
 |.i k x::l=>by show (oneCell (.int k x)&& bC (bN l))=true;rw[GK l];rfl
 |.a k n v::l=>by
  show bC (v.l.map (V.int k)++bN l)=true
  have h1:=GK l
  unfold bC at h1⊢
  rw[List.all_append,h1,List.all_map];simp[oneCell]
theorem Zw {ks:List jo} {tv:TV R.T} {ss:List Sg} {v:V} (h:Lp ks tv=some ss) (hr:Rl R ρ top tv v):v.cells=bN ss/\je ss=kW ks/\dJ v=true:=by
 unfold Lp at h
 split at h
 ·rename_i ss'
  obtain⟨h1,h⟩:=dO h
  cases h
  rw[hr.Gr,Te h1]
  exact⟨rfl,(Mf ss).symm,rfl⟩
 ·obtain⟨l,rfl,hl⟩:=hr.kI
  obtain⟨h1,h2⟩:=ai8 h hl
  exact⟨h1,h2,rfl⟩
 ·rename_i k x
  split at h
  ·split at h
   ·rename_i e;subst e;cases h
    rw[hr.fZ];exact⟨rfl,rfl,rfl⟩
   ·cases h
  ·cases h
 ·cases h
theorem Tf {k:IntKind}:∀{cs:List (TV R.T)} {vs:List V},zG k cs=true->au R ρ top cs vs->vs=List.replicate cs.length (V.int k 0)
 | [],vs,_,hr=>hr.fB
 |c::cs,vs,h,hr=>by
  obtain⟨v,ws,rfl,h1,h2⟩:=hr.dN
  cases c<;>first| (exact absurd (show false=true from h) (by simp))|skip
  rename_i k' x
  have h':((if k'=k then (if x=0 then true else false) else false)&& zG k cs)=true:=h
  rw[aan] at h'
  have e1:k'=k:=by by_cases e:k'=k;exact e;rw[if_neg e] at h';cases h'.1
  have e2:x=0:=by by_cases e:x=0;exact e;rw[if_pos e1,if_neg e] at h';cases h'.1
  rw[h1.fZ,e1,e2,Tf h'.2 h2];rfl
theorem ai9:∀{ks:List jo} {cs:List (TV R.T)} {vs:List V},CF ks cs=true->au R ρ top cs vs->vs=bN (ks.map Lm):=by
 intro ks
 induction ks with
 |nil=>
  intro cs vs h hr
  cases cs with
  |nil=>exact hr.fB
  |cons c cs=>cases h
 |cons k ks ih=>
  intro cs vs h hr
  cases k with
  |i k=>
   cases cs with
   |nil=>cases h
   |cons c cs=>
    obtain⟨v,ws,rfl,h1,h2⟩:=hr.dN
    have h':(zG k [c]&& CF ks cs)=true:=h
    rw[aan] at h'
    have:=Tf h'.1 (au.cons' h1 au.nil')
    cases this
    rw[ih h'.2 h2];rfl
  |a k n=>
   have h':(Nat.ble n cs.length&& zG k (cs.take n)&& CF ks (cs.drop n))=true:=by cases cs<;>exact h
   rw[aan,aan] at h'
   have h1:=ae3 h'.1.1
   have h2:=Tf h'.1.2 (hr.take n)
   have h3:=ih h'.2 (hr.drop n)
   rw[<-aga n vs,h2,h3,ads,akc h1]
   show _=(List.replicate n (0:Int)).map (V.int k)++bN (ks.map Lm)
   rw[List.map_replicate]
theorem aja {pre mid post mid':List Sg} {off sz:Nat} (h1:je pre=off) (h2:je mid=sz) (h3:je mid'=sz):fT (bN (pre++(mid++post))) off (bN mid')=bN (pre++(mid'++post)):=by
 unfold fT
 rw[qb,qb,qb,qb,gL,h3]
 rw[amg (by rw[gL,h1];exact RS _),agk (by rw[gL,h1];exact RS _)]
 rw[<-acF (bN pre) (bN mid),anW (by rw[iP,gL,gL,h1,h2];exact RS _),amm (by rw[iP,gL,gL,h1,h2];exact RS _)]
 rw[List.nil_append,acF]
theorem Zx {pre post:List Sg} {off n a:Nat} {k:IntKind} {v w:Vec n} {l:List Int} (h1:je pre=off) (h2:a+l.length<=n) (h3:w.l=v.l.take a++l++v.l.drop (a+l.length)):fT (bN (pre++(.a k n v::post))) (off+a) (l.map (V.int k))=bN (pre++(.a k n w::post)):=by
 unfold fT
 rw[qb,qb,Md,Md]
 show ((bN pre++(v.l.map (V.int k)++bN post)).take (off+a)++l.map (V.int k)++(bN pre++(v.l.map (V.int k)++bN post)).drop (off+a+(l.map (V.int k)).length))=bN pre++(w.l.map (V.int k)++bN post)
 have hp:(bN pre).length=off:=by rw[gL,h1]
 have hv:(v.l.map (V.int k)).length=n:=by rw[aau,v.h]
 rw[aau]
 rw[List.take_append,agk (by omega),hp,al7,amg (by omega)]
 rw[amd,amm (by omega),hp,List.nil_append,show off+a+l.length-off=a+l.length by omega,anW (by omega)]
 rw[h3,afr,afr,List.map_take,List.map_drop]
 simp only[acF]
theorem ajb {l:List Int} {a:Nat} {y:Int} (h:a<l.length):l.set a y=l.take a++[y]++l.drop (a+1):=by
 rw[List.set_eq_take_append_cons_drop,if_pos h];simp
theorem Tg {g:Nat} {t:TypeId} {k:IntKind} {n:Nat} {v:Vec n} (h:Lu E R g t=some ⟨k,n,v⟩):∃cs e,E.glob g=some cs/\cs=v.l.map (V.int k)/\qy E.P t=some (n,e)/\cO E.P t=some n/\jl E.P t=some true/\pW E e=true:=by
 unfold Lu at h
 split at h
 ·rename_i cs k' n' v' m e sz ag h1 h2 h3 h4 h5
  obtain⟨hc,h⟩:=dO h
  cases h
  simp only[aan] at hc
  obtain⟨⟨⟨⟨c1,c2⟩,c3⟩,c4⟩,c5⟩:=hc
  subst c1
  rw[d9 c2] at h3;rw[d9 c3] at h4
  refine⟨cs,e,h1, ?_,h3,h4,h5,c4⟩
  have key:∀(cs:List V) (l:List Int),Ls k cs l=true->cs=l.map (V.int k):=by
   intro cs
   induction cs with
   |nil=>intro l h;cases l with
    |nil=>rfl
    |cons y l=>cases h
   |cons c cs ih=>
    intro l h
    cases l with
    |nil=>cases c<;>cases h
    |cons y l=>
     cases c<;>first| (exact absurd (show false=true from h) (by simp))|skip
     rename_i k' x
     have h':((if k'=k then (if x=y then true else false) else false)&& Ls k cs l)=true:=h
     rw[aan] at h'
     have e1:k'=k:=by by_cases e:k'=k;exact e;rw[if_neg e] at h';cases h'.1
     have e2:x=y:=by by_cases e:x=y;exact e;rw[if_pos e1,if_neg e] at h';cases h'.1
     rw[e1,e2,ih l h'.2];rfl
  exact key cs v.l c5
 ·cases h
theorem Mg {i:Int} {n:Nat} (h:eX i n=true):0<=i/\i<n/\i.toNat<n:=by
 have:=of_decide_eq_true h
 omega
theorem Ti {k:IntKind} {i:Int} {n:Nat} (h:eX i n=true):idx (.int k i) n=some i.toNat:=by
 obtain⟨h1,h2,_⟩:=Mg h
 simp[idx,mq,h1,h2]
theorem Mh {k:IntKind} {i:Int} {n:Nat} (h1:0<=i) (h2:i<=n):bnd (.int k i) n=some i.toNat:=by
 simp[bnd,mq,h1,h2]
theorem Zy {n:Nat} {lo hi:Option Int} {vl vh:Option V} (hl:(lo=none/\vl=none)\/∃n k,lo=some n/\vl=some (.int k n)) (hh:(hi=none/\vh=none)\/∃n k,hi=some n/\vh=some (.int k n)) (hb:ni n lo hi=true):
 kN n n vl vh none=some ((dL lo).toNat,(fV n hi).toNat,n):=by
 rcases hl with ⟨rfl,rfl⟩| ⟨a,k,rfl,rfl⟩<;>rcases hh with ⟨rfl,rfl⟩| ⟨c,k',rfl,rfl⟩<;>simp only[ni,decide_eq_true_eq] at hb
 ·simp[kN,dL,fV]
 ·simp[kN,dL,fV,Mh hb.1 hb.2]
 ·simp[kN,dL,fV,Mh (i:=a) (n:=n) hb.1 (by omega)]
 ·simp[kN,dL,fV,Mh (i:=c) (n:=n) (by omega) hb.2.2.1,Mh (i:=a) (n:=c.toNat) hb.1 (by omega)]
theorem ajc {P:Program} {t e:TypeId} {y:V} {ys cs:List V} {loc:Aq.Loc} {s off len cap:Nat} {ag:Bool} (he:kU P t=some e) (z1:cO P e=some 1) (z2:jl P e=some false) (q2:uh y=false) (q1:kP σ false 1 aC y=some ys) (hone:ys.all (fun v=>bC v.cells)=true)
 (h4:σ.cB loc s=some cs) (hb:off+min ys.length len<=cs.length):copyV P σ t (.vw loc s off len cap 1 ag) y=some (.int .i64 (min ys.length len:Nat),σ.setObj loc s (.cells (fT cs off ((ys.take (min ys.length len)).flatMap V.cells)))):=by
 unfold copyV
 rw[he];simp only[Option.bind_some,z1,z2]
 rw[if_pos ⟨q2,rfl⟩,q1];simp only[Option.bind_some]
 rw[if_pos hone,h4];simp only[Option.bind_some]
 rw[if_pos ⟨trivial,by rw[Nat.mul_one];exact hb⟩]
theorem Mi {t:TypeId} {x:TV R.T} {lo hi:Option (TV R.T)} {v:V} {vl vh:Option V} {r:dV R} (h:xR E R t x lo hi st=some r) (hx:Rl R ρ σ.top x v) (him:aH ρ b st fr σ)
 (hl:∀y,lo=some y->∃w,vl=some w/\Rl R ρ σ.top y w) (hln:lo=none->vl=none) (hh:∀y,hi=some y->∃w,vh=some w/\Rl R ρ σ.top y w) (hhn:hi=none->vh=none):oN ρ σ.top (nL E.P σ t v vl vh none) r:=by
 unfold xR at h
 split at h
 ·rename_i p off lo' hi' n e e1 e2 ha
  have b1:=Dh e1 hl hln
  have b2:=Dh e2 hh hhn
  obtain⟨hel,h⟩:=dO h
  obtain⟨z1,z2⟩:=yh hel
  obtain⟨s,h1,rfl⟩:=hx.oJ
  have fin:∀(k:IntKind) (cs:List V),σ.cB (ρ.om.lc p) s=some cs->off+n<=cs.length->ni n lo' hi'=true->∃y,nL E.P σ t (.ref (ρ.om.lc p) s off) vl vh none=some y/\Rl R ρ σ.top (.sv p off k n lo' hi') y:=by
   intro k cs hc hlen hB
   obtain⟨p1,p2,p3,_,_⟩:=zR hB
   refine⟨_, ?_,by unfold Rl;exact⟨s,h1,hB,rfl⟩⟩
   unfold nL
   rw[GI ha];dsimp only
   rw[z1,z2,Zy b1 b2 hB,hc]
   simp only[Option.bind_some,Nat.mul_one]
   rw[if_pos hlen,if_neg (by omega)]
  split at h
  ·rename_i ss hl'
   obtain⟨s',h3,h4⟩:=him.rd hl'
   rw[h1] at h3;cases h3
   split at h
   ·rename_i pre k n' v' post hsp
    obtain⟨hb,h⟩:=dO h
    have:=d9 hb;subst this
    cases h
    obtain⟨e3,hw⟩:=tN hsp
    intro hc
    exact fin k _ h4 (by rw[gL,e3,yj,hw,Me];show off+n'<=off+(n'+_);omega) hc
   ·cases h
  ·rename_i cs hl'
   obtain⟨s',vs,h3,h4,h5⟩:=him.rd hl'
   rw[h1] at h3;cases h3
   split at h
   ·rename_i k _ _ _
    obtain⟨hb,h⟩:=dO h
    cases h
    intro hc
    exact fin k _ h4 (by rw[h5.length];exact ae3 hb) hc
   ·cases h
  ·cases h
 ·rename_i cs off n e e1 e2 ha
  have b1:=Dh e1 hl hln
  have b2:=Dh e2 hh hhn
  obtain⟨hb,h⟩:=dO h
  rw[aan] at hb
  obtain⟨z1,z2⟩:=yh hb.1
  have hle:=ae3 hb.2
  split at h
  ·rename_i k _ _ _
   split at h
   ·rename_i l hu
    cases h
    obtain⟨vs,rfl,hr⟩:=hx.tK
    have hv:=L8 hu hr
    have hlen:=hr.length
    have hsb:ni n none none=true:=rfl
    refine⟨.aj .sh (((l.drop off).take n).map (V.int k)), ?_,by unfold Rl;exact⟨.sh,rfl,trivial⟩⟩
    unfold nL
    rw[GI ha];dsimp only
    rw[z1,z2,Zy b1 b2 hsb]
    simp only[Option.bind_some,Nat.mul_one]
    have hn:off+n<=vs.length:=by rw[hlen];exact hle
    have e0:(dL none).toNat=0:=rfl
    have yt:(fV n none).toNat=n:=by simp[fV]
    rw[if_pos ⟨hn,fun _=>⟨trivial,by rw[hv];unfold bC;rw[List.all_map];exact adI.2 fun _ _=>rfl⟩⟩,e0,yt]
    have hl2:(List.take n (List.drop off l)).length=n:=by rw[hv,aau] at hn;rw[ads,aft];omega
    have:=S9 k ((l.drop off).take n) ((l.drop off).drop n|>.map (V.int k))
    rw[<-afr,aga,hl2] at this
    rw[hv,Nat.sub_zero,Nat.add_zero,<-List.map_drop,this]
   ·cases h
  ·cases h
 ·cases h
end
end Aq
end
section
namespace Aq
open Go
section
variable {R:iH} {E:Env}
variable {ρ:aN} {top:Nat->Nat} {b ay:Nat} {st:MS R.T} {fr:Fr} {σ:ah} {o:Oper}
theorem rY.val {v:Option V} {r:dV R} (hv:oN ρ σ.top v r) (ho:∀y,v=some y->bg E fr σ ay o=some (y,σ)):rY E st ρ ay fr σ o r:=by
 cases r with
 |t x=>obtain⟨y,e,hr⟩:=hv;exact⟨y,.gV (ho y e),hr⟩
 |c c x=>intro hc;obtain⟨y,e,hr⟩:=hv hc;exact⟨y,.gV (ho y e),hr⟩
 |p α d o' f=>intro a ha;obtain⟨y,e,hr⟩:=hv a ha;exact⟨y,.gV (ho y e),hr⟩
 |w x s=>exact hv.elim
 |wc c x s=>exact hv.elim
theorem rY.tt {x:TV R.T} {y:V} (ho:bg E fr σ ay o=some (y,σ)) (hr:Rl R ρ σ.top x y):rY E st ρ ay fr σ o (.t x):=⟨y,.gV ho,hr⟩
theorem GL {x:Operand}:iw E fr (some x)=some (fr.ev E x):=rfl
theorem Zz {top:Nat->Nat} {x y v:TV R.T} {w:V} (h:CB true x y=some v) (hx:Rl R ρ top x w):Rl R ρ top v w:=by
 unfold CB at h
 split at h<;>try cases h
 ·split at h
  ·cases h;exact hx
  ·cases h
 all_goals first|exact hx| (unfold Rl at hx⊢;exact hx)
theorem ZA {top:Nat->Nat} {x y v:TV R.T} {w:V} (h:CB false x y=some v) (hx:Rl R ρ top y w):Rl R ρ top v w:=by
 unfold CB at h
 split at h<;>try cases h
 ·split at h
  ·rename_i e;subst e;cases h;exact hx
  ·cases h
 all_goals first|exact hx| (unfold Rl at hx⊢;exact hx)
theorem Dn {c a' b':Operand} {t:Bool} (hop:o.op= .pick c a' b') (hc:fr.ev E c= .bool t):bg E fr σ ay o=some (if t then fr.ev E a' else fr.ev E b',σ):=by
 simp only[bg,hop,hc,oh,Option.map_some]
variable (hR:nR R)
include hR
theorem ajd {t:TypeId} {m x:TV R.T} {v w:V} {ok:Bool} {r:dV R} (h:Lh E R t m x ok st=some r) (hm:Rl R ρ σ.top m v) (hx:Rl R ρ σ.top x w) (hi:aH ρ b st fr σ):oN ρ σ.top (ug E.P σ t v w ok) r:=by
 unfold Lh at h
 split at h
 ·rename_i o
  split at h
  ·rename_i k e m hl
   obtain⟨s,h1,rfl⟩:=hm.vT
   obtain⟨s',h2,h3⟩:=hi.rd hl
   rw[h1] at h2;cases h2
   exact SF hR h hx h3
  ·cases h
 ·rename_i k e m
  exact SF hR h hx (by rw[hm.CY];rfl)
 ·split at h
  ·split at h
   ·unfold Rl at hm;subst hm
    exact SF hR h hx rfl
   ·cases h
  ·cases h
 ·cases h
omit hR in
theorem ZB {top:Nat->Nat} {x y:TV R.T} {v w:V} {r:Bool} (h:Li x y=some r) (hx:Rl R ρ top x v) (hy:Rl R ρ top y w):mh v w=some r:=by
 unfold Li at h
 split at h
 ·rw[hx.fZ,hy.fZ];exact h
 ·cases h;rw[hx.l5,hy.l5];rfl
 ·cases h
omit hR in
theorem ZC {top:Nat->Nat} {t:TypeId} {x:TV R.T} {v:V} (h:Lj E t x=true) (hx:Rl R ρ top x v):kV E.P t v=true:=by
 unfold Lj at h
 split at h
 ·rename_i hu;rw[hx.fZ];unfold kV;rw[hu]
 ·rename_i hu;rw[hx.l5];unfold kV;rw[hu]
 ·cases h
omit hR in
theorem ZE {top:Nat->Nat} {x y:TV R.T} {v w:V} (hx:Rl R ρ top x v) (hy:Rl R ρ top y w):∀{ks vs:List (TV R.T)} {ks' vs':List (TV R.T)} {k l:List V},Ll x y ks vs=some (ks',vs')->au R ρ top ks k->au R ρ top vs l->
 ∃k' l',uf v w k l=some (k',l')/\au R ρ top ks' k'/\au R ρ top vs' l'
 | [],[],_,_,k,l,h,h1,h2=>by
   cases h
   rw[h1.fB,h2.fB]
   exact⟨_,_,rfl,.cons' hx rfl,.cons' hy rfl⟩
 | [],_::_,_,_,_,_,h,_,_=>by cases h
 |_::_,[],_,_,_,_,h,_,_=>by cases h
 |a::ks,b::vs,ks',vs',k,l,h,h1,h2=>by
  obtain⟨k0,k,rfl,g1,g2⟩:=h1.dN
  obtain⟨l0,l,rfl,g3,g4⟩:=h2.dN
  unfold Ll at h
  split at h
  ·rename_i c hc
   have he:=ZB hc hx g1
   cases c with
   |true=>cases h;exact⟨v::k,w::l,by simp[uf,he],.cons' hx g2,.cons' hy g4⟩
   |false=>
    rw[cond_false] at h
    split at h
    ·rename_i ks1 vs1 hs
     cases h
     obtain⟨k',l',e1,e2,e3⟩:=ZE hx hy hs g2 g4
     exact⟨k0::k',l0::l',by simp[uf,he,e1],.cons' g1 e2,.cons' g3 e3⟩
    ·cases h
  ·cases h
theorem ZF {t:TypeId} {m x y:TV R.T} {v w u:V} {r:dV R} (h:Cv E R t m x y st=some r) (hm:Rl R ρ σ.top m v) (hx:Rl R ρ σ.top x w) (hy:Rl R ρ σ.top y u) (hi:aH ρ ay st fr σ)
 (ho:∀σ',qz E.P σ t v w u=some σ'->bg E fr σ ay o=some (aC,σ')):rY E st ρ ay fr σ o r:=by
 unfold Cv at h
 split at h
 ·rename_i p
  split at h
  ·rename_i k e m hl
   split at h
   ·rename_i kt et ht
    obtain⟨hk,h⟩:=dO h
    split at h
    ·rename_i a c ha hc
     cases h
     obtain⟨s,h1,rfl⟩:=hm.vT
     obtain⟨s',h2,h3⟩:=hi.ob _ _ hl
     rw[h1] at h2;cases h2
     have hw:=YZ hR hk ha hx
     subst hw
     unfold X0 at hc
     obtain⟨hs,hc⟩:=dO hc
     have hu:u=aG R e c:=by
      have h4:=Sd hR hc hy
      have h5:=Mc hR y u hs hy
      have h6:=h4.2.2.1 0 σ
      rw[jV h5] at h6
      exact adG h6
     subst hu
     have hup:qz E.P σ t (.bP (ρ.om.lc p) s) (aG R k a) (aG R e c)=some (σ.setObj (ρ.om.lc p) s (.map ((xO (lM R k) a c m).map fun q=>aG R k q.1) ((xO (lM R k) a c m).map fun q=>aG R e q.2))):=by
      unfold qz
      rw[ht];simp only[Option.bind_some]
      rw[if_pos (LW hR hk a a).2,h3]
      simp only[Option.bind_some]
      rw[YX hR hk a c m];rfl
     refine⟨aC,_,ρ,.gV (ho _ hup),(hi.le (adh _)).set p s ⟨s,h1,map_eq _ _ _ _ _⟩,rfl,by unfold Rl;rfl,fun q _=>aY.set hl rfl⟩
    ·cases h
   ·cases h
  ·rename_i ks vs hl
   split at h
   ·rename_i kt et ht
    obtain⟨hk,h⟩:=dO h
    split at h
    ·rename_i ks' vs' hs
     cases h
     obtain⟨s,h1,rfl⟩:=hm.vT
     obtain⟨s',k0,l0,h2,h3,h4,h5⟩:=hi.ob _ _ hl
     rw[h1] at h2;cases h2
     obtain⟨k1,l1,g1,g2,g3⟩:=ZE hx hy hs h4 h5
     have hup:qz E.P σ t (.bP (ρ.om.lc p) s) w u=some (σ.setObj (ρ.om.lc p) s (.map k1 l1)):=by
      unfold qz
      rw[ht];simp only[Option.bind_some]
      rw[if_pos (ZC hk hx),h3]
      simp only[Option.bind_some]
      rw[g1];rfl
     refine⟨aC,_,ρ,.gV (ho _ hup),(hi.le (adh _)).set p s ⟨s,k1,l1,h1,map_eq _ _ _ _ _,g2,g3⟩,rfl,by unfold Rl;rfl,fun q _=>aY.set hl rfl⟩
    ·cases h
   ·cases h
  ·cases h
 ·cases h
omit hR in
theorem aH.at (h:aH ρ b st fr σ) {d:Nat} (hd:d<F0):(fr.d,d)=ρ.om.lc d:=by rw[h.d,Cx.ah1 _ hd]
omit hR in
theorem aH.ZG (h:aH ρ b st fr σ) {x:Option Nat} (hd:∀d,x=some d->d<F0):(x.map fun t=>(fr.d,t))=x.map fun t=>ρ.om.lc t:=by
 cases x with
 |none=>rfl
 |some d=>exact congrArg some (h.at (hd d rfl))
theorem ZH {d s:Nat} {cs:List (TV R.T)} {l:List V} (hi:aH ρ b st fr σ) (hc:au R ρ σ.top cs l) (hm:mJ d cs=false):aH (ρ.lN d s) b (st.new d (.cells cs)) fr (σ.setObj (ρ.om.lc d) s (.cells l)):=
 hi.new d s ⟨s,l,rX,vG _ _ _ _,au.kill d Da rfl rfl cs l hm hc⟩
theorem ZI {d s:Nat} {ss:List Sg} (hi:aH ρ b st fr σ):aH (ρ.lN d s) b (st.new d (.sg ss)) fr (σ.setObj (ρ.om.lc d) s (.cells (bN ss))):=
 hi.new d s ⟨s,rX,vG _ _ _ _⟩
theorem Tj {g:Nat} {cs:List V} (h:E.glob g=some cs):fr.ev E (.global g)= .aK cs 0:=by
 show (match E.glob g with|some cs=>V.aK cs 0|none=>V.raw (Value.pointer (some ⟨g,0,none⟩)))=_
 rw[h]
omit hR in
theorem ZJ {top:Nat->Nat} {k:IntKind} (l:List Int):∀L:List Nat,au R ρ top (L.map fun j=>(TV.int k (l.getD j 0):TV R.T)) (L.map fun j=>V.int k (l.getD j 0))
 | []=>au.nil'
 |j::L=>au.cons' (by unfold Rl;rfl) (ZJ l L)
omit hR in
theorem aje {k:IntKind} {l:List Int} {m:Nat} (h:m<=l.length):((List.range m).map fun j=>V.int k (l.getD j 0))=(l.map (V.int k)).take m:=by
 apply List.ext_getElem
 ·rw[aau,amh,ads,aau];omega
 ·intro i h1 h2
  rw[aau,amh] at h1
  rw[al3,al4,List.getElem_take,al3,adH,acR (show i<l.length by omega)]
  rfl
theorem ajf {g:List (Nat×Bool)} (fH:∀d,o.dst=some d->d<F0) (hg:oL fr g) (hi:aH ρ ay st fr σ) {r:dV R} (h:pX E R g o.dst o.op st=some r):rY E st ρ ay fr σ o r:=by
 unfold pX at h
 split at h
 ·
  rename_i t hop
  split at h
  ·rename_i d ks cs hd hks hz
   obtain⟨hc,h⟩:=dO h
   cases h
   obtain⟨v,hv,hr⟩:=Df (ρ:=ρ) (top:=σ.top) hz
   obtain⟨l,rfl,hl⟩:=hr.kI
   have hl2:=ai9 hc hl
   refine⟨.ref (ρ.om.lc d) ay 0,_,ρ.lN d ay,.gV (o:=o) ?_,ZI hR (ss:=ks.map Lm) (hi.le (adh _)),rfl,by unfold Rl;exact⟨ay,rX,rfl⟩,fun q hq=>aY.new (fun e=>hq (by rw[hd,e]))⟩
   simp only[bg,hop,hd,Option.map_some,Option.bind_some,hv,V.cells,hl2,GK,if_true,hi.at (fH _ hd)]
  ·cases h
 ·
  rename_i t x hop
  cases hz:E.uj t
  case true=>rw[hz] at h;cases h
  rw[hz,cond_false] at h
  split at h
  ·rename_i d ks v hd hks hv
   split at h
   ·rename_i ss hss
    cases h
    obtain⟨c1,c2,c3⟩:=Zw hss (bf (E:=E) hi hg hv)
    refine⟨.ref (ρ.om.lc d) ay 0,_,ρ.lN d ay,.gV (o:=o) ?_,ZI hR (ss:=ss) (hi.le (adh _)),rfl,by unfold Rl;exact⟨ay,rX,rfl⟩,fun q hq=>aY.new (fun e=>hq (by rw[hd,e]))⟩
    simp only[bg,hop,hz,aap,if_false,hd,Option.map_some,Option.bind_some,c1,c3,GK,and_self,if_true,hi.at (fH _ hd)]
   ·cases h
  ·cases h
 ·
  rename_i t a hop
  split at h
  ·rename_i gl
   split at h
   ·rename_i k n v hv
    cases h
    obtain⟨cs,e,g1,g2,g3,g4,g5,g6⟩:=Tg hv
    refine .tt (y:=.agg (v.l.map (V.int k))) ?_ ?_
    ·simp only[bg,hop,Tj hR g1]
     unfold gK;rw[g4,g5];simp only[Option.bind_some]
     unfold nJ
     rw[if_pos rfl,if_pos (by rw[g2,aau,v.h];omega),al9,agk (by rw[g2,aau,v.h];exact RS _),g2];rfl
    ·unfold Rl;show _=V.agg (v.l.map (V.int k)++[]);rw[aeX]
   ·cases h
  ·split at h
   ·rename_i p off hv
    split at h
    ·rename_i ss hl
     split at h
     ·rename_i v hld
      cases h
      obtain⟨s,h1,h2⟩:=(bf (E:=E) hi hg hv).oJ
      obtain⟨s',h3,h4⟩:=hi.rd hl
      rw[h1] at h3;cases h3
      obtain⟨y,hy,hr⟩:=Zt (ρ:=ρ) (top:=σ.top) hld
      exact .tt (by simp only[bg,hop,h2,h4,Option.bind_some,hy,Option.map_some]) hr
     ·cases h
    ·cases h
   ·rename_i p off k n i m hv
    split at h
    ·rename_i ss hl
     obtain⟨s,h1,hi0,hi1,h2⟩:=(bf (E:=E) hi hg hv).Gs
     obtain⟨s',h3,h4⟩:=hi.rd hl
     rw[h1] at h3;cases h3
     split at h
     ·rename_i pre k' n' v post hsp
      by_cases ek:k'=k
      ·subst ek
       rw[if_pos rfl] at h
       cases hb:Nat.beq n' n
       ·rw[hb] at h;cases h
       rw[hb,cond_true] at h
       have:=d9 hb;subst this
       cases hc:(Nat.beq m 1&& pW E t)
       ·rw[hc,cond_false] at h
        split at h
        ·rename_i y hy
         cases h
         obtain⟨x,g1,g2⟩:=ai7 (ρ:=ρ) (top:=σ.top) hsp hi1 hy
         exact .tt (by simp only[bg,hop,h2,h4,Option.bind_some,g1,Option.map_some]) g2
        ·cases h
       ·rw[hc,cond_true] at h
        cases h
        rw[aan] at hc
        have:=d9 hc.1;subst this
        exact .tt (y:=.int k' (v.at' i)) (by simp only[bg,hop,h2,h4,Option.bind_some,Zv (i:=i) hsp (adV (ake _) hi1) hc.2,Option.map_some]) (by unfold Rl;rfl)
      ·rw[if_neg ek] at h;cases h
     ·cases h
    ·cases h
   ·rename_i k n v i hv
    obtain⟨he,h⟩:=dO h
    cases h
    obtain⟨h1,h2,h3⟩:=(bf (E:=E) hi hg hv).LG
    obtain⟨z1,z2⟩:=yh he
    refine .tt (y:=.int k (v.at' i)) ?_ (by unfold Rl;rfl)
    simp only[bg,hop,h3]
    unfold gK;rw[z1,z2];simp only[Option.bind_some]
    unfold nJ;simp only[aap,if_false]
    rw[List.getElem?_map,Zu v (by omega)];rfl
   ·cases h
 ·
  rename_i t a x hop
  split at h
  ·rename_i p off v hv hx
   split at h
   ·rename_i ss sz hl hsz
    split at h
    ·rename_i pre rest hsp
     split at h
     ·rename_i mid post hsp2
      split at h
      ·rename_i mid' hco
       cases h
       obtain⟨s,h1,h2⟩:=(bf (E:=E) hi hg hv).oJ
       obtain⟨s',h3,h4⟩:=hi.ob _ _ hl
       rw[h1] at h3;cases h3
       obtain⟨c1,c2,c3⟩:=Zw hco (bf (E:=E) hi hg hx)
       obtain⟨e1,w1⟩:=tN hsp
       obtain⟨e2,w2⟩:=tN hsp2
       rw[Mf,w2] at c2
       refine⟨aC,_,ρ,.gV (o:=o) ?_,(hi.le (adh _)).set p s (x:=.sg (pre++(mid'++post))) (a:=.cells (bN (pre++(mid'++post)))) ⟨s,h1,vG _ _ _ _⟩,rfl,by unfold Rl;rfl,fun q _=>aY.set hl rfl⟩
       simp only[bg,hop,h2,h4,Option.bind_some,c1]
       rw[if_pos ⟨by rw[hsz,gL,c2],by rw[gL,gL,e1,e2,yj,yj,w1,w2,c2];omega,GK _⟩,e1,e2,aja w1 w2 c2]
      ·cases h
     ·cases h
    ·cases h
   ·cases h
  ·rename_i p off k n i m k' y hv hx
   split at h
   ·rename_i ss hl
    split at h
    ·rename_i pre k2 n' v post hsp
     by_cases ek:k2=k
     ·subst ek
      rw[if_pos rfl] at h
      by_cases ZK:k'=k2
      ·subst ZK
       rw[if_pos rfl] at h
       obtain⟨hb,h⟩:=dO h
       cases h
       rw[aan,aan] at hb
       have e1:=d9 hb.1.1;subst e1
       have e2:=d9 hb.1.2;subst e2
       obtain⟨z1,z2⟩:=yh hb.2
       obtain⟨s,h1,hi0,hi1,h2⟩:=(bf (E:=E) hi hg hv).Gs
       obtain⟨s',h3,h4⟩:=hi.ob _ _ hl
       rw[h1] at h3;cases h3
       have hy:=(bf (E:=E) hi hg hx).fZ
       obtain⟨e1,w1⟩:=tN hsp
       refine⟨aC,_,ρ,.gV (o:=o) ?_,(hi.le (adh _)).set p s (x:=.sg (pre++(.a k' n' (v.set i y)::post))) (a:=.cells (bN (pre++(.a k' n' (v.set i y)::post)))) ⟨s,h1,vG _ _ _ _⟩,rfl,by unfold Rl;rfl,fun q _=>aY.set hl rfl⟩
       simp only[bg,hop,h2,h4,Option.bind_some,hy,V.cells]
       have ajg:=Zx (post:=post) (k:=k') (v:=v) (w:=v.set i y) (l:=[y]) w1 (show i.toNat+[y].length<=n' from hi1) (ajb (by rw[v.h];omega))
       rw[if_pos ⟨by rw[z1];rfl,by rw[gL,e1,yj,w1,Me];show off+i.toNat+1<=off+(n'+_);omega,rfl⟩,e1]
       rw[show [V.int k' y]=[y].map (V.int k') from rfl,ajg]
      ·rw[if_neg ZK] at h;cases h
     ·rw[if_neg ek] at h;cases h
    ·cases h
   ·cases h
  ·cases h
 ·
  rename_i t x i hop
  split at h
  ·rename_i n e k0 i ha hiv
   obtain⟨hel,h⟩:=dO h
   obtain⟨z1,z2⟩:=yh hel
   have hii:=(bf (E:=E) hi hg hiv).fZ
   split at h
   ·rename_i gl
    split at h
    ·rename_i k n' v hv
     cases h
     intro hin
     obtain⟨cs,e',g1,g2,g3,g4,g5,g6⟩:=Tg hv
     rw[ha] at g3;cases g3
     obtain⟨j1,j2,j3⟩:=Mg hin
     refine⟨.aK cs i.toNat,.gV ?_,by unfold Rl;exact⟨j1,j2,by rw[g2]⟩⟩
     simp only[bg,hop,Tj hR g1,hii]
     unfold nZ
     rw[GI ha];dsimp only
     rw[z1];simp only[Option.bind_some,Ti hin,Option.map_some,Nat.mul_one,ae5]
    ·cases h
   ·split at h
    ·rename_i p off hv
     split at h
     ·rename_i ss hl
      split at h
      ·rename_i pre k n' v post hsp
       obtain⟨hb,h⟩:=dO h
       have:=d9 hb;subst this
       cases h
       intro hin
       obtain⟨s,h1,h2⟩:=(bf (E:=E) hi hg hv).oJ
       obtain⟨j1,j2,j3⟩:=Mg hin
       refine⟨.ref (ρ.om.lc p) s (off+i.toNat),.gV ?_,by unfold Rl;exact⟨s,h1,j1,by omega,rfl⟩⟩
       simp only[bg,hop,h2,hii]
       unfold nZ
       rw[GI ha];dsimp only
       rw[z1];simp only[Option.bind_some,Ti hin,Option.map_some,Nat.mul_one]
      ·cases h
     ·cases h
    ·cases h
  ·cases h
 ·
  rename_i t x i hop
  split at h
  ·rename_i n e k n' v k0 i ha hv hiv
   obtain⟨hb,h⟩:=dO h
   cases h
   rw[aan] at hb
   have:=d9 hb.2;subst this
   obtain⟨z1,z2⟩:=yh hb.1
   have hii:=(bf (E:=E) hi hg hiv).fZ
   have hvv:=(bf (E:=E) hi hg hv).Gr
   intro hin
   obtain⟨j1,j2,j3⟩:=Mg hin
   refine⟨.int k (v.at' i),.gV ?_,by unfold Rl;rfl⟩
   simp only[bg,hop,hvv,hii]
   unfold vo
   rw[GI ha];dsimp only
   rw[Ti hin];simp only[Option.bind_some,z1,Nat.mul_one]
   have:=Zv (E:=E) (t:=e) (ss:=[.a k n' v]) (pre:=[]) (post:=[]) (off:=0) (i:=i) rfl j3 hb.1
   rw[ae5] at this
   rw[this];rfl
  ·cases h
 ·
  rename_i t x lo hi' hop
  split at h
  ·rename_i v hv
   have lF:=bf (E:=E) hi hg hv
   have ho:∀vl vh,iw E fr lo=vl->iw E fr hi'=vh->∀y,nL E.P σ t (fr.ev E x) vl vh none=some y->bg E fr σ ay o=some (y,σ):=by
    rintro vl vh rfl rfl y hy
    simp only[bg,hop]
    rw[show iw E fr none=none from rfl,hy];rfl
   split at h
   ·exact .val (Mi h lF hi (vl:=none) (vh:=none) (by intro y hy;cases hy) (fun _=>rfl) (by intro y hy;cases hy) (fun _=>rfl)) (ho _ _ rfl rfl)
   ·rename_i lo
    split at h
    ·rename_i l hl
     have hlr:=bf (E:=E) hi hg hl
     exact .val (Mi h lF hi (vl:=some (fr.ev E lo)) (vh:=none) (by intro y hy;cases hy;exact⟨_,rfl,hlr⟩) (by intro hy;cases hy) (by intro y hy;cases hy) (fun _=>rfl)) (ho _ _ rfl rfl)
    ·cases h
   ·rename_i hi'
    split at h
    ·rename_i l hl
     have hlr:=bf (E:=E) hi hg hl
     exact .val (Mi h lF hi (vl:=none) (vh:=some (fr.ev E hi')) (by intro y hy;cases hy) (fun _=>rfl) (by intro y hy;cases hy;exact⟨_,rfl,hlr⟩) (by intro hy;cases hy)) (ho _ _ rfl rfl)
    ·cases h
   ·rename_i lo hi'
    split at h
    ·rename_i l m hl hm
     have hlr:=bf (E:=E) hi hg hl
     have hmr:=bf (E:=E) hi hg hm
     exact .val (Mi h lF hi (vl:=some (fr.ev E lo)) (vh:=some (fr.ev E hi')) (by intro y hy;cases hy;exact⟨_,rfl,hlr⟩) (by intro hy;cases hy) (by intro y hy;cases hy;exact⟨_,rfl,hmr⟩) (by intro hy;cases hy)) (ho _ _ rfl rfl)
    ·cases h
  ·cases h
 ·
  rename_i t x lo hi' mx hop
  split at h
  ·rename_i cp u l kh hh Mj km e hv hvh hvm hu
   split at h
   ·rename_i sz hsz
    cases hb:Nat.beq sz (dx R u)
    ·rw[hb] at h;cases h
    rw[hb,cond_true] at h
    have:=d9 hb;subst this
    obtain⟨c',h2,_⟩:=(bf (E:=E) hi hg hv).kJ
    have eh:=(bf (E:=E) hi hg hvh).fZ
    have em:=(bf (E:=E) hi hg hvm).fZ
    have fin:∀(vl:Option V) (a:Nat) (L:List (Den R.T u)),iw E fr lo=vl->kN l.length l.length vl (some (.int kh hh)) (some (.int Mj km))=some (a,hh.toNat,km.toNat)->(l.take hh.toNat).drop a=L->∃y,lQ E fr σ ay o y σ/\Rl R ρ σ.top (.aj .any u L) y:=by
     rintro vl a L hvl hsb rfl
     refine⟨.aj (if km.toNat=hh.toNat then .full else .sh) (((l.map (aG R u)).take hh.toNat).drop a),.gV ?_, ?_⟩
     ·simp only[bg,hop,h2]
      rw[hvl,show iw E fr (some hi')=some (.int kh hh) by rw[GL,eh],show iw E fr (some mx)=some (.int Mj km) by rw[GL,em]]
      unfold nL
      rw[hu];dsimp only
      rw[hsz];simp only[Option.bind_some,aau,hsb,Gy hR,if_true,Option.isNone_some,aap,and_false,if_false,Option.map_some]
     ·unfold Rl
      exact⟨_,by rw[SE],trivial⟩
    split at h
    ·cases hf:X8 E o.dst with
     |false=>
      rw[hf,cond_false] at h
      cases h
      intro hc
      rw[aan] at hc
      exact fin none 0 _ rfl (by simp[kN,qQ hc.1,qQ hc.2]) (by simp[pR])
     |true=>
      rw[hf,cond_true] at h
      cases h
      intro hc
      rw[aan,aan] at hc
      obtain⟨y,hy1,hy2⟩:=fin none 0 _ rfl (by simp[kN,qQ hc.1,qQ hc.2.1]) rfl
      have hkm:hh=km:=by simpa using hc.2.2
      subst hkm
      refine⟨.aj .full (((l.map (aG R u)).take hh.toNat).drop 0),.gV ?_, ?_⟩
      ·simp only[bg,hop,h2]
       rw[show iw E fr none=none from rfl,show iw E fr (some hi')=some (.int kh hh) by rw[GL,eh],show iw E fr (some mx)=some (.int Mj hh) by rw[GL,em]]
       unfold nL
       rw[hu];dsimp only
       have hsb:kN l.length l.length none (some (.int kh hh)) (some (.int Mj hh))=some (0,hh.toNat,hh.toNat):=by simp[kN,qQ hc.1,qQ hc.2.1]
       rw[hsz];simp only[Option.bind_some,aau,hsb,Gy hR,if_true,Option.isNone_some,aap,and_false,if_false,Option.map_some]
      ·unfold Rl
       exact⟨.full,by rw[SE];simp[pR],rfl⟩
    ·rename_i lo'
     split at h
     ·rename_i ka a hva
      cases h
      intro hc
      rw[aan,aan] at hc
      have ea:=(bf (E:=E) hi hg hva).fZ
      exact fin (some (.int ka a)) a.toNat _ (by rw[GL,ea]) (by simp[kN,qQ hc.1,qQ hc.2.1,qQ hc.2.2]) (by simp[pR])
     ·cases h
   ·cases h
  ·cases h
 ·
  rename_i a b' x hop
  split at h
  ·rename_i p off k n lo hi' hv
   obtain⟨s,h1,hB,h2⟩:=(bf (E:=E) hi hg hv).xV
   split at h
   ·rename_i e hu1 hu2
    split at h
    ·rename_i hu3
     split at h
     ·rename_i l hl
      cases h
      obtain⟨cs,c1,c2,c3,c4⟩:=Zj hR hi hl h1 hB
      obtain⟨p1,p2,p3,_,_⟩:=zR hB
      refine .tt (y:=.str (List.map (fun n:Int=>UInt8.ofNat n.toNat) l)) ?_ (by unfold Rl;rfl)
      simp only[bg,hop,h2]
      unfold vk
      rw[hu1,hu2];dsimp only
      rw[hu3,c1];dsimp only
      simp only[Option.bind_some]
      rw[if_pos (by omega),c3]
      have:=SC (R:=R) l
      rw[show l.map (V.int .u8)=List.map (aG R (.int .u8)) l from rfl,this];rfl
     ·cases h
    ·cases h
   ·cases h
  ·cases h
 ·
  rename_i t x hop
  split at h
  ·rename_i m e p off k n lo hi' ha hv
   cases h
   intro hc
   have hc:=of_decide_eq_true hc
   obtain⟨s,h1,hB,h2⟩:=(bf (E:=E) hi hg hv).xV
   obtain⟨p1,p2,p3,p4,p5⟩:=zR hB
   refine⟨.ref (ρ.om.lc p) s (off+(dL lo).toNat),.gV ?_,by unfold Rl;exact⟨s,h1,p4,by omega,rfl⟩⟩
   simp only[bg,hop,ha,h2,Option.bind_some]
   rw[if_pos ⟨hc.1,by omega⟩]
  ·rename_i m e c k l ha hv
   cases h
   intro hc
   have hc:=of_decide_eq_true hc
   obtain⟨c',h2,_⟩:=(bf (E:=E) hi hg hv).kJ
   have hr:au R ρ σ.top (X9 R k m l) ((List.map (V.int k) l).take m):=by
    rw[<-aje hc.2];exact ZJ l _
   refine⟨.aK ((List.map (V.int k) l).take m) 0,.gV ?_,by unfold Rl;exact⟨_,rfl,hr⟩⟩
   simp only[bg,hop,ha,h2,Option.bind_some]
   rw[if_pos ⟨hc.1,by rw[aau];exact hc.2,by unfold bC;rw[List.all_map];exact adI.2 fun _ _=>rfl⟩]
   rfl
  ·cases h
 ·
  rename_i c hop
  split at h
  ·rename_i p off k n lo hi' y fu hvs
   split at h
   ·rename_i t ht
    split at h
    ·rename_i e he
     obtain⟨hel,h⟩:=dO h
     obtain⟨z1,z2⟩:=yh hel
     split at h
     ·rename_i l0 ss hsrc hl
      obtain⟨l,hl0⟩:∃l:List Int,l=l0:=⟨l0,rfl⟩
      subst hl0
      split at h
      ·rename_i pre k' n' v post hsp
       by_cases ek:k'=k
       ·subst ek
        rw[if_pos rfl] at h
        cases hb:Nat.beq n' n
        ·rw[hb] at h;cases h
        rw[hb,cond_true] at h
        have:=d9 hb;subst this
        cases h
        have hargs:=uI (E:=E) hi hg hvs
        obtain⟨a1,as1,ea1,ra1,ra2⟩:=hargs.dN
        obtain⟨a2,as2,ea2,rb1,rb2⟩:=ra2.dN
        have ea3:=rb2.fB
        subst ea3;subst ea2
        obtain⟨s,h1,hB,rfl⟩:=ra1.xV
        obtain⟨p1,p2,p3,p4,p5⟩:=zR hB
        obtain⟨s',h3,h4⟩:=hi.ob _ _ hl
        rw[h1] at h3;cases h3
        obtain⟨e1,w1⟩:=tN hsp
        obtain⟨q1,q2⟩:=SK hR (σ:=σ) (ag:=false) (z:=aC) hsrc rb1
        have q1:kP σ false 1 aC a2=some (List.map (V.int k') l):=q1
        have hlen:(fV n' hi'-dL lo).toNat=(fV n' hi').toNat-(dL lo).toNat:=by omega
        have hmin:min (List.map (V.int k') l).length ((fV n' hi').toNat-(dL lo).toNat)=(List.take (fV n' hi'-dL lo).toNat l).length:=by
         rw[aau,ads,hlen,Nat.min_comm]
        have hfl:((List.map (V.int k') l).take (List.take (fV n' hi'-dL lo).toNat l).length).flatMap V.cells=(List.take (fV n' hi'-dL lo).toNat l).map (V.int k'):=by
         have:∀m:List Int,(m.map (V.int k')).flatMap V.cells=m.map (V.int k'):=by
          intro m
          induction m with
          |nil=>rfl
          |cons x m ih=>rw[ac7,afn,ih];rfl
         rw[<-List.map_take,this,ads]
         congr 1
         by_cases hle:(fV n' hi'-dL lo).toNat<=List.length l
         ·rw[akc hle]
         ·rw[Nat.min_eq_right (by omega),agk (RS _),agk (by omega)]
        have hlt:(List.take (fV n' hi'-dL lo).toNat l).length<=(fV n' hi').toNat-(dL lo).toNat:=by rw[ads,hlen];exact Nat.min_le_left _ _
        have hone:(List.map (V.int k') l).all (fun v=>bC v.cells)=true:=by rw[List.all_map];simp[bC,V.cells,oneCell]
        refine⟨_,_,ρ,.of (o:=o) fun S=> ?_,(hi.le (adh _)).set p s (x:=.sg (pre++(.a k' n' (v.rO (dL lo) (List.take (fV n' hi'-dL lo).toNat l))::post))) (a:=.cells (bN (pre++(.a k' n' (v.rO (dL lo) (List.take (fV n' hi'-dL lo).toNat l))::post)))) ⟨s,h1,vG _ _ _ _⟩,rfl,by unfold Rl;rfl,fun q _=>aY.set hl rfl⟩
        unfold opC
        rw[hop];dsimp only
        rw[fu];dsimp only
        rw[ea1]
        have hbv:nM E fr.om (o.dst.map fun t=>(fr.d,t)) σ ay .copy c.argTypes [.vw (ρ.om.lc p) s (off+(dL lo).toNat) ((fV n' hi').toNat-(dL lo).toNat) (n'-(dL lo).toNat) 1 false,a2]=(c.argTypes[0]?).bind fun t=>copyV E.P σ t (.vw (ρ.om.lc p) s (off+(dL lo).toNat) ((fV n' hi').toNat-(dL lo).toNat) (n'-(dL lo).toNat) 1 false) a2:=rfl
        rw[hbv,ht];simp only[Option.bind_some]
        rw[ajc he z1 z2 q2 q1 hone h4 (by rw[hmin,gL,e1,yj,w1,Me];show off+(dL lo).toNat+_<=off+(n'+_);omega),hmin,hfl]
        simp only[Option.map_some]
        rw[e1,Zx (w:=v.rO (dL lo) (List.take (fV n' hi'-dL lo).toNat l)) w1 (by omega) (by unfold Vec.rO;rw[GJ];simp only[iP,ads,aft,v.h] at*;omega)]
        try rfl
       ·rw[if_neg ek] at h;cases h
      ·cases h
     ·cases h
    ·cases h
   ·cases h
  ·cases h
 ·cases h
theorem ajq {om:Bool} {F:Nat->List (FR R)} (hF:bH E F) (bq:ρ.om.om=om) (fH:∀d,o.dst=some d->d<F0) {g:List (Nat×Bool)} (hg:oL fr g) (hi:aH ρ ay st fr σ) {r:dV R} (h:qO E R om F g o.dst o.op st=some r):rY E st ρ ay fr σ o r:=by
 unfold qO at h
 split at h
 ·
  rename_i x hop
  cases hz:qA E o.dst
  ·rw[hz] at h;dsimp only[cond_false] at h
   split at h
   ·rename_i v hv;cases h;exact .tt (y:=fr.ev E x) (by simp only[bg,hop,hz,aap,if_false]) (bf hi hg hv)
   ·cases h
  ·rw[hz] at h;dsimp only[cond_true] at h
   split at h
   ·rename_i p t hv
    split at h
    ·rename_i t' l0 hl
     split at h
     ·rename_i l hc
      cases h
      obtain⟨e1,e2⟩:=qP hc
      subst e1
      cases e2
      have hO:=hi.ob p _ hl
      have hrl:∀ρ',Rl R ρ' σ.top (.aj .any t' l0) (.aj .sh (l0.map (aG R t'))):=fun ρ'=>by unfold Rl;exact⟨.sh,rfl,trivial⟩
      rcases (bf (E:=E) hi hg hv).zL with ⟨s,h1,h2⟩| ⟨h1,h2⟩
      ·rcases hO.2 with h3| ⟨s',cs,h3,h4,h5⟩
       ·rw[h1] at h3;exact absurd h3.2 (by simp)
       ·rw[h1] at h3;cases h3
        have hlc:cs.length=l0.length*dx R t':=by rw[h5.length,Gz]
        have hlen:l0.length=ρ.ln p:=hO.1
        refine⟨.aj .sh (l0.map (aG R t')),σ.iq (ρ.om.lc p),ρ,.gV ?_,(hi.del p).le (adh _),rfl,hrl ρ,fun q _=>aY.del hl rfl⟩
        simp only[bg,hop,hz,if_true,h2,sM,h4,Option.bind_some,ae5,al9]
        rw[agk (by rw[hlc,hlen];exact RS _),Zd hR l0 cs h5,<-hlen,Ze hR l0,Zf hR l0]
        rw[if_pos ⟨by rw[hlc];exact RS _,rfl⟩]
      ·have hl0:l0=[]:=adK (hO.1.trans h1)
       subst hl0
       refine⟨.aj .sh [],σ,ρ,.gV ?_,(hi.del' p).le (adh _),rfl,hrl ρ,fun q _=>aY.del' hl rfl⟩
       simp only[bg,hop,hz,if_true]
       rcases h2 with h2|h2<;>rw[h2]<;>rfl
     ·cases h
    ·cases h
   ·rename_i k m hv
    cases h
    have hr:=bf (E:=E) hi hg hv
    refine .tt (y:=.int k m) ?_ (by unfold Rl;rfl)
    simp only[bg,hop,hz,if_true,hr.fZ,sM]
   ·cases h
 ·rename_i x hop
  split at h
  ·rename_i v hv;cases h;exact .tt (y:=fr.ev E x) (by simp only[bg,hop]) (bf hi hg hv)
  ·cases h
 ·
  rename_i c a' b' hop
  split at h
  ·rename_i j
   split at h
   ·rename_i t hc
    have hc':=(bf (E:=E) hi hg hc).pY
    split at h
    ·rename_i x y hx hy
     split at h
     ·rename_i v hv
      cases h
      refine .tt (Dn hop hc') ?_
      rw[BR] at hc'
      cases t
      ·exact ZA hv (bf (E:=E) hi (.cons hc' hg) hy)
      ·exact Zz hv (bf (E:=E) hi (.cons hc' hg) hx)
     ·cases h
    ·cases h
   ·rename_i t hc
    have hc':=(bf (E:=E) hi hg hc).tJ
    split at h
    ·rename_i v hv
     cases h
     refine .tt (Dn hop hc') ?_
     cases t
     ·exact bf (E:=E) hi hg hv
     ·exact bf (E:=E) hi hg hv
    ·cases h
   ·cases h
  ·cases h
 ·
  rename_i t hop
  split at h
  ·rename_i d z hd hz
   obtain⟨hc,h⟩:=dO h
   cases h
   simp only[aan,ajp] at hc
   obtain⟨v,hv,hr⟩:=Df (ρ:=ρ) (top:=σ.top) hz
   have hng:xJ z=true:=by
    cases z<;>first|rfl| (have:=hc.1;simp[TV.cells,xI,Ry] at this)
   obtain⟨hcells,_⟩:=uJ hng hr
   refine⟨.ref (ρ.om.lc d) ay 0,_,ρ.lN d ay,.gV (o:=o) ?_,ZH hR (hi.le (adh _)) hcells hc.2,rfl,by unfold Rl;exact⟨ay,rX,rfl⟩,fun q hq=>aY.new (fun e=>hq (by rw[hd,e]))⟩
   simp only[bg,hop,hd,Option.map_some,Option.bind_some,hv,Gx hc.1 hcells,if_true,hi.at (fH _ hd)]
  ·cases h
 ·
  rename_i t x hop
  cases hz:E.uj t with
  |true=>
   rw[hz,cond_true] at h
   split at h
   ·rename_i v hv
    obtain⟨hc,h⟩:=dO h
    cases h
    rw[aan] at hc
    have hr:=bf (E:=E) hi hg hv
    obtain⟨hcells,hnr⟩:=uJ hc.2 hr
    refine .tt (y:=.aK (fr.ev E x).cells 0) ?_ ?_
    ·simp only[bg,hop,hz,if_true,Mc hR _ _ hc.1 hr,hnr,and_self]
    ·unfold Rl;exact⟨_,rfl,hcells⟩
   ·cases h
  |false=>
  rw[hz,cond_false] at h
  split at h
  ·rename_i d v hd hv
   obtain⟨hc,h⟩:=dO h
   cases h
   simp only[aan,ajp] at hc
   have hr:=bf (E:=E) hi hg hv
   obtain⟨hcells,hnr⟩:=uJ hc.1.2 hr
   refine⟨.ref (ρ.om.lc d) ay 0,_,ρ.lN d ay,.gV (o:=o) ?_,ZH hR (hi.le (adh _)) hcells hc.2,rfl,by unfold Rl;exact⟨ay,rX,rfl⟩,fun q hq=>aY.new (fun e=>hq (by rw[hd,e]))⟩
   simp only[bg,hop,hz,aap,if_false,hd,Option.map_some,Option.bind_some,Gx hc.1.1 hcells,hnr,and_self,if_true,hi.at (fH _ hd)]
  ·cases h
 ·
  rename_i t parts hop
  split at h
  ·rename_i pl z ps hpl hz hps
   split at h
   ·rename_i cs hcs
    cases h
    obtain⟨zv,hzv,SG⟩:=Df (ρ:=ρ) (top:=σ.top) hz
    obtain⟨e1,e2⟩:=Sm (E:=E) hi hg hps
    have hzc:au R ρ σ.top z.cells zv.cells:=by
     refine(uJ ?_ SG).1
     unfold vL at hz
     cases z<;>first|rfl|skip
     all_goals
      exfalso
      split at hz
      ·split at hz
       ·unfold Cg at hz
        split at hz
        ·split at hz<;>cases hz
        ·unfold zB at hz;split at hz<;>cases hz
       ·cases hz
      ·cases hz
    obtain⟨l',f1,f2⟩:=YN (qs:=parts.toList.map fun p=>(p.1,fr.ev E p.2)) pl (by rw[e1];simp[Function.comp_def]) (by simpa [Function.comp_def] using e2) hzc hcs
    refine .tt (y:=.agg l') ?_ (by unfold Rl;exact⟨l',rfl,f2⟩)
    simp only[bg,hop,hpl,hzv,Option.bind_some]
    rw[f1];rfl
   ·cases h
  ·cases h
 ·
  rename_i t len parts hop
  split at h
  ·rename_i ps hps
   obtain⟨e1,e2⟩:=Sm (E:=E) hi hg hps
   refine .val (aiE hR (qs:=parts.toList.map fun p=>(p.1,fr.ev E p.2)) h (by rw[e1];simp[Function.comp_def]) (by simpa [Function.comp_def] using e2)) fun y hy=> ?_
   simp only[bg,hop]
   rw[hy];rfl
  ·cases h
 ·
  rename_i t a hop
  split at h
  ·rename_i p off hv
   split at h
   ·rename_i cs hl
    split at h
    ·rename_i v hld
     cases h
     obtain⟨s,h1,h2⟩:=(bf (E:=E) hi hg hv).oJ
     obtain⟨s',l,h3,h4,h5⟩:=hi.rd hl
     rw[h1] at h3;cases h3
     obtain⟨y,hy,hr⟩:=vX h5 hld
     exact .tt (by simp only[bg,hop,h2,h4,Option.bind_some,hy,Option.map_some]) hr
    ·cases h
   ·cases h
  ·rename_i cs off hv
   split at h
   ·rename_i v hld
    cases h
    obtain⟨l,h2,h5⟩:=(bf (E:=E) hi hg hv).tK
    obtain⟨y,hy,hr⟩:=vX h5 hld
    exact .tt (by simp only[bg,hop,h2,hy,Option.map_some]) hr
   ·cases h
  ·rename_i p τ i off hv
   split at h
   ·rename_i ob hl
    obtain⟨s,h1,_,h2⟩:=(bf (E:=E) hi hg hv).zM
    obtain⟨l,f,rfl,hf⟩:=aiM h (hi.rd hl) h1
    intro y hy
    obtain⟨cs,w,h3,h4,h5⟩:=hf y hy
    exact⟨w,.gV (by simp only[bg,hop,h2,h3,Option.bind_some,h4,Option.map_some]),h5⟩
   ·cases h
  ·cases h
 ·
  rename_i t a x hop
  split at h
  ·rename_i p off v hv hx
   split at h
   ·rename_i cs sz hl hsz
    obtain⟨hc,h⟩:=dO h
    cases h
    simp only[aan] at hc
    obtain⟨⟨⟨c1,c2⟩,c3⟩,c4⟩:=hc
    obtain⟨s,h1,h2⟩:=(bf (E:=E) hi hg hv).oJ
    obtain⟨s',l,h3,h4,h5⟩:=hi.ob _ _ hl
    rw[h1] at h3;cases h3
    obtain⟨h6,h7⟩:=uJ c4 (bf (E:=E) hi hg hx)
    refine⟨aC,_,ρ,.gV (o:=o) ?_,(hi.le (adh _)).set p s ⟨s,_,h1,vG _ _ _ _,SA off h5 h6⟩,rfl,by unfold Rl;rfl,fun q _=>aY.set hl rfl⟩
    simp only[bg,hop,h2,h4,Option.bind_some]
    rw[if_pos ⟨by rw[hsz,h6.length,d9 c1],by rw[h6.length,h5.length];exact ae3 c2,Gx c3 h6⟩]
   ·cases h
  ·cases h
 ·
  rename_i x hop
  split at h
  ·rename_i p off hv;cases h
   have hr:=bf (E:=E) hi hg hv
   obtain⟨s,h1,h2⟩:=hr.oJ
   exact .tt (y:=fr.ev E x) (by simp only[bg,hop,h2]) hr
  ·rename_i p off hv;cases h
   have hr:=bf (E:=E) hi hg hv
   obtain⟨s,h2,h1⟩:=hr.tK
   exact .tt (y:=fr.ev E x) (by simp only[bg,hop,h2]) hr
  ·rename_i p τ i off hv;cases h
   have hr:=bf (E:=E) hi hg hv
   obtain⟨s,h1,_,h2⟩:=hr.zM
   exact .tt (y:=fr.ev E x) (by simp only[bg,hop,h2]) hr
  ·rename_i f a' b' hv;cases h
   have hr:=bf (E:=E) hi hg hv
   obtain⟨a',b',h2,h1⟩:=hr.mP
   exact .tt (y:=fr.ev E x) (by simp only[bg,hop,h2]) hr
  ·cases h
 ·
  rename_i op t x y t' hop
  split at h
  ·rename_i x' y' hx hy
   exact .val (aiy h (bf (E:=E) hi hg hx) (bf (E:=E) hi hg hy)) fun z hz=>by simp only[bg,hop,hz,Option.map_some]
  ·cases h
 ·
  rename_i op t x hop
  split at h
  ·rename_i x' hx
   exact .val (aiz h (bf (E:=E) hi hg hx)) fun z hz=>by simp only[bg,hop,hz,Option.map_some]
  ·cases h
 ·
  rename_i a' b' x hop
  split at h
  ·rename_i x' hx
   exact .val (aiA (σ:=σ) h (bf (E:=E) hi hg hx)) fun z hz=>by simp only[bg,hop,hz,Option.map_some]
  ·cases h
 ·
  rename_i f a' b' hop
  split at h
  ·rename_i xs ys hx hy
   cases h
   exact .tt (y:=.fn (.func f) (a'.toList.map (fr.ev E)) (b'.toList.map (fr.ev E))) (by simp only[bg,hop]) (by unfold Rl;exact⟨_,_,rfl,uI (E:=E) hi hg hx,uI (E:=E) hi hg hy⟩)
  ·cases h
 ·
  rename_i t hop
  split at h
  ·rename_i d k e hd ht
   split at h
   ·rename_i k' e' hk he
    cases h
    refine⟨.bP (ρ.om.lc d) ay,_,ρ.lN d ay,.gV (o:=o) ?_,(hi.le (adh _)).new d ay (a:=.map [] []) ⟨ay,rX,map_eq σ (ρ.om.lc d) ay [] []⟩,rfl,by unfold Rl;exact⟨ay,rX,rfl⟩,fun q hq=>aY.new (fun e=>hq (by rw[hd,e]))⟩
    simp only[bg,hop,hd,Option.map_some,hi.at (fH _ hd)]
   ·cases h
    refine⟨.bP (ρ.om.lc d) ay,_,ρ.lN d ay,.gV (o:=o) ?_,(hi.le (adh _)).new d ay (a:=.map [] []) ⟨ay,[],[],rX,map_eq σ (ρ.om.lc d) ay [] [],rfl,rfl⟩,rfl,by unfold Rl;exact⟨ay,rX,rfl⟩,fun q hq=>aY.new (fun e=>hq (by rw[hd,e]))⟩
    simp only[bg,hop,hd,Option.map_some,hi.at (fH _ hd)]
  ·cases h
 ·
  rename_i t l c hop
  split at h
  ·rename_i n m hn hm
   refine aiT hR h (bf (E:=E) hi hg hn) (bf (E:=E) hi hg hm) hi rfl fun y σ' hy=>.gV ?_
   have e:(o.dst.map fun t=>(fr.d,t))=o.dst.map fun t=>(ρ.om.lc t):=hi.ZG fH
   simp only[bg,hop]
   rw[e,hi.om,bq];exact hy
  ·cases h
 ·
  rename_i t x lo hi' hop
  split at h
  ·rename_i x' hx
   have lF:=bf (E:=E) hi hg hx
   split at h
   ·exact .val (LV hR (σ:=σ) (vl:=none) (vh:=none) h lF (fun y hy=>by cases hy) (fun _=>rfl) (fun y hy=>by cases hy) (fun _=>rfl)) fun z hz=>by simp only[bg,hop,iw,hz,Option.map_some]
   ·rename_i lo
    split at h
    ·rename_i l hl
     exact .val (LV hR (σ:=σ) (vl:=some (fr.ev E lo)) (vh:=none) h lF (fun y hy=>by cases hy;exact⟨_,rfl,bf (E:=E) hi hg hl⟩) (fun h=>by cases h) (fun y hy=>by cases hy) (fun _=>rfl)) fun z hz=>by simp only[bg,hop,iw,hz,Option.map_some]
    ·cases h
   ·rename_i hi2
    split at h
    ·rename_i l hl
     exact .val (LV hR (σ:=σ) (vl:=none) (vh:=some (fr.ev E hi2)) h lF (fun y hy=>by cases hy) (fun _=>rfl) (fun y hy=>by cases hy;exact⟨_,rfl,bf (E:=E) hi hg hl⟩) (fun h=>by cases h)) fun z hz=>by simp only[bg,hop,iw,hz,Option.map_some]
    ·cases h
   ·rename_i lo hi2
    split at h
    ·rename_i l l2 hl hl2
     exact .val (LV hR (σ:=σ) (vl:=some (fr.ev E lo)) (vh:=some (fr.ev E hi2)) h lF (fun y hy=>by cases hy;exact⟨_,rfl,bf (E:=E) hi hg hl⟩) (fun h=>by cases h) (fun y hy=>by cases hy;exact⟨_,rfl,bf (E:=E) hi hg hl2⟩) (fun h=>by cases h)) fun z hz=>by simp only[bg,hop,iw,hz,Option.map_some]
    ·cases h
  ·cases h
 ·
  rename_i t x f hop
  split at h
  ·rename_i x' hx
   have lF:=bf (E:=E) hi hg hx
   split at h
   ·rename_i v hv
    cases h
    unfold XY at hv
    split at hv
    ·rename_i p u hf
     split at hv
     ·rename_i q off
      cases hv
      obtain⟨s,h1,h2⟩:=lF.oJ
      exact .tt (y:=.ref (ρ.om.lc q) s (off+p)) (by simp only[bg,hop,hf,Option.bind_some,h2]) (by unfold Rl;exact⟨s,h1,rfl⟩)
     ·rename_i q off
      cases hv
      obtain⟨l,h2,h1⟩:=lF.tK
      exact .tt (y:=.aK l (off+p)) (by simp only[bg,hop,hf,Option.bind_some,h2]) (by unfold Rl;exact⟨l,rfl,h1⟩)
     ·rename_i q τ i off
      cases hv
      obtain⟨s,h1,h3,h2⟩:=lF.zM
      exact .tt (y:=.ref (ρ.om.lc q) s (i.toNat*dx R τ+off+p)) (by simp only[bg,hop,hf,Option.bind_some,h2]) (by unfold Rl;exact⟨s,h1,h3,by rw[agh]⟩)
     ·cases hv
    ·cases hv
   ·cases h
  ·cases h
 ·
  rename_i t x f hop
  split at h
  ·rename_i p u cs hf hx
   split at h
   ·rename_i v hv
    cases h
    obtain⟨l,h1,h2⟩:=(bf (E:=E) hi hg hx).kI
    obtain⟨y,hy,hr⟩:=vX h2 hv
    exact .tt (by simp only[bg,hop,hf,Option.bind_some,h1,hy,Option.map_some]) hr
   ·cases h
  ·cases h
 ·
  rename_i t x i hop
  split at h
  ·rename_i p τ y' hx hy
   exact .val (aiU hR (om:=false) h (bf (E:=E) hi hg hx) (bf (E:=E) hi hg hy) hi) fun z hz=>by simp only[bg,hop,hz,Option.map_some]
  ·rename_i x' y' _ hx hy
   exact .val (ai3 hR h (bf (E:=E) hi hg hx) (bf (E:=E) hi hg hy)) fun z hz=>by simp only[bg,hop,hz,Option.map_some]
  ·cases h
 ·
  rename_i t x i hop
  split at h
  ·rename_i x' y' hx hy
   exact .val (ai4 h (bf (E:=E) hi hg hx) (bf (E:=E) hi hg hy)) fun z hz=>by simp only[bg,hop,hz,Option.map_some]
  ·cases h
 ·
  rename_i t x i ok hop
  split at h
  ·rename_i x' y' hx hy
   exact .val (ajd hR h (bf (E:=E) hi hg hx) (bf (E:=E) hi hg hy) hi) fun z hz=>by simp only[bg,hop,hz,Option.map_some]
  ·cases h
 ·
  rename_i t m k v hop
  split at h
  ·rename_i m' k' v' hm hk hv
   exact ZF hR h (bf (E:=E) hi hg hm) (bf (E:=E) hi hg hk) (bf (E:=E) hi hg hv) hi fun σ' hs=>by simp only[bg,hop,hs,Option.map_some]
  ·cases h
 ·rename_i t m k v hop
  split at h
  ·rename_i m' k' v' hm hk hv
   exact ZF hR h (bf (E:=E) hi hg hm) (bf (E:=E) hi hg hk) (bf (E:=E) hi hg hv) hi fun σ' hs=>by simp only[bg,hop,hs,Option.map_some]
  ·cases h
 ·
  rename_i x i hop
  split at h
  ·rename_i vs hv
   split at h
   ·rename_i v hx
    cases h
    obtain⟨l,h1,h2⟩:=(bf (E:=E) hi hg hv).LD
    obtain⟨y,hy,hr⟩:=h2.get hx
    exact .tt (by simp only[bg,hop,h1,hy,Option.map_some]) hr
   ·cases h
  ·cases h
 ·
  rename_i c hop
  split at h
  ·rename_i bi fu
   split at h
   ·rename_i vs hvs
    have hrs:=uI (E:=E) hi hg hvs
    have step:∀y σ',nM E fr.om (o.dst.map fun t=>(fr.d,t)) σ ay bi c.argTypes (c.args.toList.map (fr.ev E))=some (y,σ')->lQ E fr σ ay o y σ':=fun y σ' hb=>.of fun S=>by
     simp only[opC,hop,fu,hb,Option.map_some]
    unfold blt at h
    split at h
    ·rename_i x
     split at h
     ·rename_i t ht
      split at h
      ·rename_i n hn
       cases h
       obtain⟨v,l,e,h1,h2⟩:=hrs.dN
       rw[h2.fB] at e
       refine⟨_,step _ σ ?_,by unfold Rl;rfl⟩
       rw[e]
       simp only[nM,ht,Option.bind_some,aiH hn h1 hi,Option.map_some]
      ·cases h
     ·cases h
    ·rename_i x y
     split at h
     ·rename_i t u ht hu
      obtain⟨v,l,e,h1,h2⟩:=hrs.dN
      obtain⟨w,l',e',h3,h4⟩:=h2.dN
      subst e'
      rw[h4.fB] at e
      have e0:(o.dst.map fun t=>(fr.d,t))=o.dst.map fun t=>(ρ.om.lc t):=hi.ZG fH
      have fin:Cy E u=true->∀z σ',jB E.P om false σ ay (o.dst.map fun t=>(ρ.om.lc t)) t v w=some (z,σ')->lQ E fr σ ay o z σ':=fun hss z σ' hz=>step z σ' (by
       rw[e,e0]
       unfold Cy at hss
       simp only[nM,ht,hu,Option.bind_some,hi.om,bq]
       split at hss
       ·rename_i hu';rw[hu'];simp only[hz,Option.bind_some]
       ·rename_i hu';rw[hu'];simp only[hz,Option.bind_some]
       ·cases hss)
      cases GN:om
      ·rw[GN] at h fin
       have h':Gf E R o.dst t u x y st=some r:=h
       have hss:Cy E u=true:=by
        unfold Gf at h'
        split at h'
        ·split at h'
         ·exact(dO h').1
         ·cases h'
        ·cases h'
       exact aiG hR (loc:=o.dst.map fun t=>(ρ.om.lc t)) h' h1 h3 hi (fin hss)
      ·rw[GN] at h fin
       have h':Gg E R o.dst t u x y st=some r:=h
       have hss:Cy E u=true:=by
        unfold Gg at h'
        split at h'
        ·split at h'
         ·exact(dO h').1
         ·cases h'
        ·cases h'
       exact aiS hR h' h1 h3 hi rfl (fin hss)
     ·cases h
    ·rename_i x l
     split at h
     ·rename_i v hv
      cases h
      obtain⟨y,ys,e,h1,h2⟩:=hrs.dN
      obtain⟨w,hw,hr⟩:=SL false hv h1 h2
      refine⟨w,step w σ ?_,hr⟩
      rw[e]
      simp only[nM,hw,Option.map_some]
     ·cases h
    ·rename_i x l
     split at h
     ·rename_i v hv
      cases h
      obtain⟨y,ys,e,h1,h2⟩:=hrs.dN
      obtain⟨w,hw,hr⟩:=SL true hv h1 h2
      refine⟨w,step w σ ?_,hr⟩
      rw[e]
      simp only[nM,hw,Option.map_some]
     ·cases h
    ·cases h
   ·cases h
  ·rename_i f fu
   split at h
   ·rename_i f' a' b' vs hf hvs
    cases himp:E.imp f' with
    |true=>rw[himp] at h;cases h
    |false=>
     rw[himp,cond_false] at h
     obtain⟨va,vb,h1,h2,h3⟩:=(bf (E:=E) hi hg hf).mP
     exact Zq hR hF hop fu h1 himp ((h2.append (uI (E:=E) hi hg hvs)).append h3) hi (fun _ hx=>hx) h
   ·cases h
  ·cases h
 ·cases h
theorem uK {om:Bool} {F:Nat->List (FR R)} (hF:bH E F) (bq:ρ.om.om=om) (fH:∀d,o.dst=some d->d<F0) {g:List (Nat×Bool)} (hg:oL fr g) (hi:aH ρ ay st fr σ) {r:dV R} (h:uG E R om F g o.dst o.op st=some r):rY E st ρ ay fr σ o r:=by
 unfold uG at h
 split at h
 ·rename_i r' hx;cases h;exact ajf hR fH hg hi hx
 ·exact ajq hR hF bq fH hg hi h
end
end Aq
end
section
namespace Aq
open Go
section
variable {R:iH} {E:Env} {ρ ρ':aN} {b ay:Nat} {st:MS R.T} {fr:Fr} {σ:ah} {o:Oper} (hR:nR R)
include hR
def wh (E:Env) (g:Nat) (r:FM R):Prop:=∀p q y q',r.F p q=some (y,q')->∀(ρ:aN) (vs:List V) (σ:ah),ρ.om.om=E.om g->(∀t,ρ.tk t=none)->ρ.om.lo<=σ.next->
 au R ρ σ.top (gJ R .any r.args p) vs->(∀o x,look (jg R r.obs q) o=some x->dY ρ σ o x)->
 qJ E g vs ρ.om.dp σ fun v σ'=>v=lJ (bG R r.res y)/\(∀o x,look (jg R r.obs q') o=some x->dY ρ σ' o x)/\σ.next<=σ'.next/\(∀l,l<σ.next->σ'.loops l=σ.loops l)/\(∀s,s<ρ.om.lo->σ'.top s=σ.top s)/\
  ∀L:Loc,L.1<=ρ.om.dp->ρ.om.out L->σ'.obj L=σ.obj L
def Mk (E:Env) (M:Nat->List (FM R)):Prop:=∀g,∀r∈M g,E.imp g=true/\wh E g r
omit hR in
theorem ZL {i:Nat}:∀{l:List Nat},aR i l=true->i∈l
 | [],h=>by cases h
 |j::l,h=>by
  have h':(Nat.beq i j||aR i l)=true:=h
  rw[al5] at h'
  rcases h' with h'|h'
  ·rw[d9 h'];exact adg ..
  ·exact adF _ (ZL h')
omit hR in
theorem Tk {i:Nat}:∀{l:List Nat},i∈l->aR i l=true
 | [],h=>by cases h
 |j::l,h=>by
  show (Nat.beq i j||aR i l)=true
  rw[al5]
  rcases adf.1 h with h|h
  ·left;rw[h];exact ajl _
  ·right;exact Tk h
omit hR in
theorem ZM:∀{l:List Nat} {n o p:Nat},look (kH l n) o=some p->n<=p/\l[p-n]? =some o
 | [],_,_,_,h=>by cases h
 |a::l,n,o,p,h=>by
  have h':look ((a,n)::kH l (n+1)) o=some p:=h
  by_cases e:o=a
  ·subst e;rw[jq] at h';cases h';exact⟨RS _,by simp⟩
  ·rw[gD _ _ e] at h'
   obtain⟨h1,h2⟩:=ZM h'
   refine⟨by omega, ?_⟩
   have:p-n=(p-(n+1))+1:=by omega
   rw[this];simpa using h2
omit hR in
theorem ZN:∀{l:List Nat},zH l=true->∀{i j o:Nat},l[i]? =some o->l[j]? =some o->i=j
 | [],_,i,j,o,hi,_=>by simp at hi
 |a::l,h,i,j,o,hi,hj=>by
  have h':(!(aR a l)&& zH l)=true:=h
  rw[aan,ajp] at h'
  cases i with
  |zero=>
   cases j with
   |zero=>rfl
   |succ j=>
    have e:a=o:=by simpa using hi
    have e2:l[j]? =some o:=by simpa using hj
    rw[e,Tk (ajn e2)] at h'
    exact absurd h'.1 (by simp)
  |succ i=>
   cases j with
   |zero=>
    have e:a=o:=by simpa using hj
    have e2:l[i]? =some o:=by simpa using hi
    rw[e,Tk (ajn e2)] at h'
    exact absurd h'.1 (by simp)
   |succ j=>rw[ZN h'.2 (show l[i]? =some o by simpa using hi) (show l[j]? =some o by simpa using hj)]
omit hR in
theorem Tm:∀{l:List Nat} {n p:Nat} {x:Ob R.T},look (CP st (kH l n)) p=some x->∃o,n<=p/\l[p-n]? =some o/\look st.ob o=some x
 | [],_,_,_,h=>by cases h
 |a::l,n,p,x,h=>by
  have up:look (CP st (kH l (n+1))) p=some x->∃o,n<=p/\(a::l)[p-n]? =some o/\look st.ob o=some x:=fun h=>by
   obtain⟨o,h1,h2,h3⟩:=Tm h
   refine⟨o,by omega, ?_,h3⟩
   have:p-n=(p-(n+1))+1:=by omega
   rw[this];simpa using h2
  have h':=h
  unfold kH CP at h'
  split at h'
  ·rename_i y hy
   by_cases e:p=n
   ·subst e;rw[jq] at h';cases h';exact⟨a,RS _,by simp,hy⟩
   ·rw[gD _ _ e] at h';exact up h'
  ·exact up h'
omit hR in
theorem Tn {L:List (Nat×Ob R.T)}:∀{l:List Nat} {n o:Nat} {y:Ob R.T},look (rR (kH l n) L) o=some y->∃p,n<=p/\l[p-n]? =some o/\look L p=some y
 | [],_,_,_,h=>by cases h
 |a::l,n,o,y,h=>by
  have up:look (rR (kH l (n+1)) L) o=some y->∃p,n<=p/\(a::l)[p-n]? =some o/\look L p=some y:=fun h=>by
   obtain⟨p,h1,h2,h3⟩:=Tn h
   refine⟨p,by omega, ?_,h3⟩
   have:p-n=(p-(n+1))+1:=by omega
   rw[this];simpa using h2
  have h':=h
  unfold kH rR at h'
  split at h'
  ·rename_i z hz
   by_cases e:o=a
   ·subst e;rw[jq] at h';cases h';exact⟨n,RS _,by simp,hz⟩
   ·rw[gD _ _ e] at h';exact up h'
  ·exact up h'
omit hR in
theorem ZO {L:List (Nat×Ob R.T)}:∀{l:List Nat} {n o:Nat},(∀p,n<=p->p<n+l.length->∃y,look L p=some y)->look (rR (kH l n) L) o=none->o∉l
 | [],_,_,_,_=>by simp
 |a::l,n,o,hL,h=>by
  obtain⟨y,hy⟩:=hL n (RS _) (by simp)
  have h':=h
  unfold kH rR at h'
  rw[hy] at h'
  by_cases e:o=a
  ·subst e;rw[jq] at h';cases h'
  ·rw[gD _ _ e] at h'
   have:=ZO (fun p h1 h2=>hL p (by omega) (by rw[List.length_cons];omega)) h'
   simp[e,this]
omit hR in
theorem Ml:∀{l:List Nat} {n:Nat} {obs:List (Nat×gU)} {q:gy R.T obs},CQ (kH l n) obs=true->∀p,n<=p->p<n+l.length->∃y,look (jg R obs q) p=some y
 | [],n,_,_,_,p,h1,h2=>by simp at h2;omega
 |a::l,n,[],_,h,_,_,_=>by cases h
 |a::l,n,[(j,k)],q,h,p,h1,h2=>by
  have h':(Nat.beq n j&& CQ (kH l (n+1)) [])=true:=h
  rw[aan] at h'
  have hj:=d9 h'.1
  subst hj
  by_cases e:p=n
  ·subst e;exact⟨_,jq _ _ _⟩
  ·obtain⟨y,hy⟩:=Ml (q:=show gy R.T [] from ()) h'.2 p (by omega) (by rw[List.length_cons] at h2;omega)
   cases hy
 |a::l,n,(j,k)::x::obs,q,h,p,h1,h2=>by
  have h':(Nat.beq n j&& CQ (kH l (n+1)) (x::obs))=true:=h
  rw[aan] at h'
  have hj:=d9 h'.1
  subst hj
  show∃y,look ((n,kE R k q.1)::jg R (x::obs) q.2) p=some y
  by_cases e:p=n
  ·subst e;exact⟨_,jq _ _ _⟩
  ·rw[gD _ _ e]
   exact Ml h'.2 p (by omega) (by rw[List.length_cons] at h2;omega)
omit hR in
theorem Mq {L:List (Nat×Ob R.T)}:∀(l:List (Nat×gU)) (x:gy R.T l),lK R L l=some x->∀i v,look (jg R l x) i=some v->∃k y z,look L i=some y/\xL R k y=some z/\v=kE R k z/\(tu l=true->okO k=true)
 | [],x,hx,i,v,hv=>by cases hv
 | [(j,k)],x,hx,i,v,hv=>by
   unfold lK at hx
   split at hx
   ·rename_i y hy
    by_cases e:i=j
    ·subst e
     have hv':look [(i,kE R k x)] i=some v:=hv
     rw[jq] at hv';cases hv'
     exact⟨k,y,x,hy,hx,rfl,fun h=>by unfold tu at h;rw[aan] at h;exact h.1⟩
    ·have hv':look [(j,kE R k x)] i=some v:=hv
     rw[gD _ _ e] at hv';cases hv'
   ·cases hx
 | (j,k)::q::l,x,hx,i,v,hv=>by
   unfold lK at hx
   split at hx
   ·rename_i y hy
    cases hu:xL R k y with
    |none=>simp only[hu] at hx;cases hx
    |some z=>
     cases hs:lK R L (q::l) with
     |none=>simp only[hu,hs] at hx;cases hx
     |some p=>
      simp only[hu,hs] at hx
      obtain rfl:=adG hx
      have hv':look ((j,kE R k z)::jg R (q::l) p) i=some v:=hv
      by_cases e:i=j
      ·subst e
       rw[jq] at hv';cases hv'
       exact⟨k,y,z,hy,hu,rfl,fun h=>by unfold tu at h;rw[aan] at h;exact h.1⟩
      ·rw[gD _ _ e] at hv'
       obtain⟨k',y',z',h1,h2,h3,h4⟩:=Mq (q::l) p hs i v hv'
       exact⟨k',y',z',h1,h2,h3,fun h=>h4 (by unfold tu at h;rw[aan] at h;exact h.2)⟩
   ·cases hx
omit hR in
theorem ZP:∀{l:List (Nat×gU)} {x:gy R.T l},tu l=true->∀{i:Nat} {v:Ob R.T},look (jg R l x) i=some v->∃k z,okO k=true/\v=kE R k z
 | [],x,_,i,v,hv=>by cases hv
 | [(j,k)],x,h,i,v,hv=>by
   unfold tu at h;rw[aan] at h
   have hv':look [(j,kE R k x)] i=some v:=hv
   by_cases e:i=j
   ·subst e;rw[jq] at hv';cases hv';exact⟨k,x,h.1,rfl⟩
   ·rw[gD _ _ e] at hv';cases hv'
 | (j,k)::q::l,x,h,i,v,hv=>by
   unfold tu at h;rw[aan] at h
   have hv':look ((j,kE R k x.1)::jg R (q::l) x.2) i=some v:=hv
   by_cases e:i=j
   ·subst e;rw[jq] at hv';cases hv';exact⟨k,x.1,h.1,rfl⟩
   ·rw[gD _ _ e] at hv';exact ZP h.2 hv'
omit hR in
theorem ZQ {top top':Nat->Nat} {t:Ty} {x:Den R.T t} {v:V} (h:Rl R ρ top (fG R .any t x) v):Rl R ρ' top' (fG R .any t x) v:=by
 cases t with
 |st n=>obtain⟨l,hv,hl⟩:=Rl.kI (R:=R) h;exact⟨l,hv,xW _ _ _ hl⟩
 |int k=>exact h
 |bool=>exact h
 |str=>exact h
 |slice t=>exact h
omit hR in
theorem ZR {top top':Nat->Nat}:∀{l:List Sk} {z:aA R.T l} {cs:List V},R4 l=true->au R ρ top (gJ R .any l z) cs->au R ρ' top' (gJ R .any l z) cs
 | [],_,_,_,h=>h
 | [k],z,cs,hd,h=>by
   cases k<;>first| (cases hd;done)|skip
   rename_i t
   obtain⟨v,ws,rfl,h1,h2⟩:=au.dN (ts:=[]) (show au R ρ top [fG R .any t z] cs from h)
   rw[h2.fB]
   exact .cons' (ZQ h1) rfl
 |k::q::l,z,cs,hd,h=>by
  cases k<;>first| (cases hd;done)|skip
  rename_i t
  obtain⟨v,ws,rfl,h1,h2⟩:=au.dN (show au R ρ top (fG R .any t z.1::gJ R .any (q::l) z.2) cs from h)
  exact .cons' (ZQ h1) (ZR (l:=q::l) hd h2)
omit hR in
theorem Tq {o p:Nat} {k:gU} {z:xE R.T k} (hk:okO k=true) (hb:ρ'.ob p=ρ.ob o) (hn:ρ'.ln p=ρ.ln o) (hl:ρ'.om.lc p=ρ.om.lc o) (h:dY ρ σ o (kE R k z)):dY ρ' σ p (kE R k z):=by
 cases k with
 |cells l=>obtain⟨s,cs,h1,h2,h3⟩:=h;exact⟨s,cs,by rw[hb];exact h1,by rw[hl];exact h2,ZR hk h3⟩
 |st n=>obtain⟨s,cs,h1,h2,h3⟩:=h;exact⟨s,cs,by rw[hb];exact h1,by rw[hl];exact h2,xW _ _ _ h3⟩
 |map k e=>obtain⟨s,h1,h2⟩:=h;exact⟨s,by rw[hb];exact h1,by rw[hl];exact h2⟩
 |arr t=>
  refine⟨h.1.trans hn.symm, ?_⟩
  rcases h.2 with h| ⟨s,cs,h1,h2,h3⟩
  ·exact .inl ⟨h.1,by rw[hb];exact h.2⟩
  ·exact .inr ⟨s,cs,by rw[hb];exact h1,by rw[hl];exact h2,vU _ cs h3⟩
 |sg l=>obtain⟨s,h1,h2⟩:=h;exact⟨s,by rw[hb];exact h1,by rw[hl];exact h2⟩
omit hR in
mutual
theorem Rl.ren {top:Nat->Nat} {m:List (Nat×Nat)} (hm:∀o p,look m o=some p->ρ'.om.lc p=ρ.om.lc o/\ρ'.ob p=ρ.ob o/\ρ'.ln p=ρ.ln o):∀(x:TV R.T) (v:V),Rl R ρ top x v->Rl R ρ' top (vO m x) v
 |.ref o off,v,h=>by
  obtain⟨s,h1,h2⟩:=h
  unfold vO
  split
  ·rename_i p hp;obtain⟨a,b,c⟩:=hm _ _ hp;exact⟨s,by rw[b];exact h1,by rw[a];exact h2⟩
  ·unfold Rl;trivial
 |.bP o,v,h=>by
  obtain⟨s,h1,h2⟩:=h
  unfold vO
  split
  ·rename_i p hp;obtain⟨a,b,c⟩:=hm _ _ hp;exact⟨s,by rw[b];exact h1,by rw[a];exact h2⟩
  ·unfold Rl;trivial
 |.vw o t,v,h=>by
  unfold vO
  split
  ·rename_i p hp
   obtain⟨a,b,c⟩:=hm _ _ hp
   rcases h with ⟨s,h1,h2⟩| ⟨h1,h2⟩
   ·exact .inl ⟨s,by rw[b];exact h1,by rw[a,c];exact h2⟩
   ·exact .inr ⟨by rw[c];exact h1,h2⟩
  ·unfold Rl;trivial
 |.jW o t i off,v,h=>by
  obtain⟨s,h1,h2⟩:=h
  unfold vO
  split
  ·rename_i p hp;obtain⟨a,b,c⟩:=hm _ _ hp;exact⟨s,by rw[b];exact h1,by rw[a];exact h2⟩
  ·unfold Rl;trivial
 |.sv o _ _ _ _ _,v,h=>by
  obtain⟨s,h1,h2⟩:=h
  unfold vO
  split
  ·rename_i p hp;obtain⟨a,b,c⟩:=hm _ _ hp;exact⟨s,by rw[b];exact h1,by rw[a];exact h2⟩
  ·unfold Rl;trivial
 |.sel o _ _ _ _ _,v,h=>by
  obtain⟨s,h1,h2⟩:=h
  unfold vO
  split
  ·rename_i p hp;obtain⟨a,b,c⟩:=hm _ _ hp;exact⟨s,by rw[b];exact h1,by rw[a];exact h2⟩
  ·unfold Rl;trivial
 |.aj c t l,v,h=>by
  obtain⟨c',hv,hc⟩:=h
  unfold vO
  cases c with
  |own u=>exact⟨c',hv,trivial⟩
  |any=>exact⟨c',hv,trivial⟩
  |sh=>exact⟨c',hv,hc⟩
  |nil=>exact⟨c',hv,hc⟩
  |full=>exact⟨c',hv,hc⟩
 |.agg cs,v,h=>by obtain⟨l,hv,hl⟩:=h;exact⟨l,hv,au.ren hm cs l hl⟩
 |.bE cs,v,h=>by obtain⟨l,hv,hl⟩:=h;exact⟨l,hv,au.ren hm cs l hl⟩
 |.aK cs off,v,h=>by obtain⟨l,hv,hl⟩:=h;exact⟨l,hv,au.ren hm cs l hl⟩
 |.fn f a b,v,h=>by obtain⟨a',b',hv,ha,hb⟩:=h;exact⟨a',b',hv,au.ren hm a a' ha,au.ren hm b b' hb⟩
 |.opt _ _ _,_,h=>h.elim
 |.int _ _,_,h=>h
 |.bool _,_,h=>h
 |.gQ _,_,h=>h
 |.str _,_,h=>h
 |.fJ,_,h=>h
 |.fF,_,h=>h
 |.eZ,_,h=>h
 |.gH,_,h=>h
 |.dX,_,h=>h
 |.dG _ _ _,_,h=>h
 |.undef,_,h=>h
 |.sg _,_,h=>h
 |.qK _ _ _ _,_,h=>h
 |.gone,_,h=>h
theorem au.ren {top:Nat->Nat} {m:List (Nat×Nat)} (hm:∀o p,look m o=some p->ρ'.om.lc p=ρ.om.lc o/\ρ'.ob p=ρ.ob o/\ρ'.ln p=ρ.ln o):∀(x:List (TV R.T)) (v:List V),au R ρ top x v->au R ρ' top (xS m x) v
 | [],_,h=>h
 |x::xs,_,⟨v,vs,e,h1,h2⟩=>⟨v,vs,e,Rl.ren hm x v h1,au.ren hm xs vs h2⟩
end
omit hR in
mutual
theorem Rl.top {ρ:aN} {t t':Nat->Nat} (ht:∀u s,ρ.tk u=some s->t' s=t s):∀(x:TV R.T) (v:V),Rl R ρ t x v->Rl R ρ t' x v
 |.aj c ty l,v,h=>by
  obtain⟨c',hv,hc⟩:=h
  refine⟨c',hv, ?_⟩
  cases c<;>first|exact hc|skip
  rcases hc with hc|hc| ⟨s,h1,h2,h3⟩
  ·exact .inl hc
  ·exact .inr (.inl hc)
  ·exact .inr (.inr ⟨s,h1,h2,(ht _ _ h2).trans h3⟩)
 |.agg cs,v,h=>by obtain⟨l,hv,hl⟩:=h;exact⟨l,hv,au.top ht cs l hl⟩
 |.bE cs,v,h=>by obtain⟨l,hv,hl⟩:=h;exact⟨l,hv,au.top ht cs l hl⟩
 |.aK cs off,v,h=>by obtain⟨l,hv,hl⟩:=h;exact⟨l,hv,au.top ht cs l hl⟩
 |.fn f a b,v,h=>by obtain⟨a',b',hv,ha,hb⟩:=h;exact⟨a',b',hv,au.top ht a a' ha,au.top ht b b' hb⟩
 |.ref _ _,_,h=>h
 |.bP _,_,h=>h
 |.vw _ _,_,h=>h
 |.jW _ _ _ _,_,h=>h
 |.opt _ _ _,_,h=>h.elim
 |.int _ _,_,h=>h
 |.bool _,_,h=>h
 |.gQ _,_,h=>h
 |.str _,_,h=>h
 |.fJ,_,h=>h
 |.fF,_,h=>h
 |.eZ,_,h=>h
 |.gH,_,h=>h
 |.dX,_,h=>h
 |.dG _ _ _,_,h=>h
 |.undef,_,h=>h
 |.sg _,_,h=>h
 |.sv _ _ _ _ _ _,_,h=>h
 |.sel _ _ _ _ _ _,_,h=>h
 |.qK _ _ _ _,_,h=>h
 |.gone,_,h=>h
theorem au.top {ρ:aN} {t t':Nat->Nat} (ht:∀u s,ρ.tk u=some s->t' s=t s):∀(x:List (TV R.T)) (v:List V),au R ρ t x v->au R ρ t' x v
 | [],_,h=>h
 |x::xs,_,⟨v,vs,e,h1,h2⟩=>⟨v,vs,e,Rl.top ht x v h1,au.top ht xs vs h2⟩
end
omit hR in
theorem iB.top {fr:Fr} {ρ:aN} {t t':Nat->Nat} (ht:∀u s,ρ.tk u=some s->t' s=t s) {x:TV R.T} {v:V} (h:iB fr ρ t x v):iB fr ρ t' x v:=by
 cases x with
 |opt j w y=>exact⟨fun hc=>Rl.top ht y v (h.1 hc),h.2⟩
 |_=>exact .of (Rl.top ht _ v h)
omit hR in
theorem Tt {ρ:aN} {σ σ':ah} {p:Nat} (hp:σ'.obj (ρ.om.lc p)=σ.obj (ρ.om.lc p)) (ht:∀u s,ρ.tk u=some s->σ'.top s=σ.top s):∀{x:Ob R.T},dY ρ σ p x->dY ρ σ' p x
 |.cells cs,h=>by
  obtain⟨s,l,h1,h2,h3⟩:=h
  exact⟨s,l,h1,by unfold ah.cB at h2⊢;rw[hp];exact h2,au.top ht _ _ h3⟩
 |.map k e m,h=>by
  obtain⟨s,h1,h2⟩:=h
  exact⟨s,h1,by unfold ah.fP at h2⊢;rw[hp];exact h2⟩
 |.smap ks vs,h=>by
  obtain⟨s,k,l,h1,h2,h3,h4⟩:=h
  exact⟨s,k,l,h1,by unfold ah.fP at h2⊢;rw[hp];exact h2,au.top ht _ _ h3,au.top ht _ _ h4⟩
 |.arr t l,h=>by
  refine⟨h.1, ?_⟩
  rcases h.2 with h| ⟨s,cs,h1,h2,h3⟩
  ·exact .inl h
  ·exact .inr ⟨s,cs,h1,by unfold ah.cB at h2⊢;rw[hp];exact h2,vU l cs h3⟩
 |.sg ss,h=>by
  obtain⟨s,h1,h2⟩:=h
  exact⟨s,h1,by unfold ah.cB at h2⊢;rw[hp];exact h2⟩
 |.gone,_=>trivial
 |.ro b,h=>Tt hp ht (x:=b) h
omit hR in
theorem aH.shift {ρ:aN} {b:Nat} {st:MS R.T} {fr:Fr} {σ σ':ah} (h:aH ρ b st fr σ) (hp:∀p,σ'.obj (ρ.om.lc p)=σ.obj (ρ.om.lc p)) (ht:∀s,s<b->σ'.top s=σ.top s):aH ρ b st fr σ':={h with
 fr:=fun i v hv=>(h.fr i v hv).top fun u s hu=>ht s (h.lt u s hu)
 ob:=fun o x hx=>Tt (hp o) (fun u s hu=>ht s (h.lt u s hu)) (h.ob o x hx)}
omit hR in
theorem ZT {top:Nat->Nat}:∀{l:List Sk} {y:aA R.T l},xU l=true->au R ρ top (gJ R .any l y) (bG R l y)
 | [],_,_=>rfl
 | [k],y,h=>by
   cases k<;>first| (cases h;done)|skip
   rename_i t
   cases t<;>first| (cases h;done)|skip
   all_goals exact .cons' rfl rfl
 |k::q::l,y,h=>by
  cases k<;>first| (cases h;done)|skip
  rename_i t
  cases t<;>first| (cases h;done)|skip
  all_goals exact .cons' rfl (ZT (l:=q::l) (y:=y.2) h)
omit hR in
theorem ajs {top:Nat->Nat} {xs:List (TV R.T)} {vs:List V} (h:au R ρ top xs vs):Rl R ρ top (Ya xs) (lJ vs):=by
 match xs,vs,h with
 | [],_,h=>rw[h.fB];exact⟨[],rfl,rfl⟩
 | [x],_,h=>obtain⟨v,l,rfl,h1,h2⟩:=h.dN;rw[h2.fB];exact h1
 |x::y::l,_,h=>
  obtain⟨v,ws,rfl,h1,h2⟩:=h.dN
  obtain⟨w,us,rfl,h3,h4⟩:=h2.dN
  exact⟨v::w::us,rfl,.cons' h1 (.cons' h3 h4)⟩
omit hR in
theorem ZU {m:List (Nat×Nat)} {A:List (TV R.T)} {B:List (Nat×Ob R.T)}:∀{l:List (FM R)} {r:FM R} {x:Option (aA R.T r.res×gy R.T r.obs)},LA R m A B l=some ⟨r,x⟩->r∈l/\∃p q,fU R r.args A=some p/\lK R B r.obs=some q/\CQ m r.obs=true/\xU r.res=true/\tu r.obs=true/\x=r.F p q
 | [],_,_,h=>by cases h
 |s::l,r,x,h=>by
  unfold LA at h
  split at h
  ·rename_i p q hp hq
   obtain⟨hb,h⟩:=dO h
   rw[aan,aan] at hb
   cases h
   exact⟨adg ..,p,q,hp,hq,hb.1,hb.2.1,hb.2.2,rfl⟩
  ·obtain⟨h1,h2⟩:=ZU h
   exact⟨adF _ h1,h2⟩
def Cx.call (c:Cx) (om:Bool) (lo:Nat) (ids:List Nat) (hnd:zH ids=true):Cx where
 om:=om
 dp:=c.dp+1
 lo:=lo
 fl:=fun p=>if F0<=p then (ids[p-F0]?).map c.lc else none
 lt:=fun p L h=>by
  split at h
  ·rename_i hp
   obtain⟨o,_,rfl⟩:=aao.1 h
   exact⟨hp,Nat.lt_succ_of_le (c.CV o)⟩
  ·cases h
 inj:=fun p q L h g=>by
  split at h
  ·split at g
   ·rename_i hp hq
    obtain⟨o,h1,rfl⟩:=aao.1 h
    obtain⟨o',h2,e⟩:=aao.1 g
    have:=c.R6 e
    subst this
    have:=ZN hnd h1 h2
    omega
   ·cases g
  ·cases h
omit hR in
theorem Cx.ajt {c:Cx} {om:Bool} {lo:Nat} {ids:List Nat} {hnd:zH ids=true} {p o:Nat} (hp:F0<=p) (h:ids[p-F0]? =some o):(c.call om lo ids hnd).lc p=c.lc o:=by
 unfold Cx.lc Cx.call
 dsimp only
 rw[if_pos hp,h]
 rfl
omit hR in
theorem Cx.ZV {c:Cx} {om:Bool} {lo:Nat} {ids:List Nat} {hnd:zH ids=true} {L:Loc} (hL:L.1<=c.dp) (h:∀o∈ids,L≠c.lc o):(c.call om lo ids hnd).out L:=by
 intro p e
 unfold Cx.lc Cx.call at e
 dsimp only at e
 split at e
 ·rename_i M hM
  split at hM
  ·obtain⟨o,h1,rfl⟩:=aao.1 hM
   exact h o (ajn h1) e
  ·cases hM
 ·rw[e] at hL;dsimp only at hL;omega
theorem Tv {β:Type} {M:Nat->List (FM R)} (hM:Mk E M) (hi:aH ρ ay st fr σ) (hsn:ay<=σ.next) {k:MS R.T->Option β} {x:β} (h:zI R M o st k=some x):
 ∃c f g a vb,o.op= .call c/\c.callee= .value f/\fr.ev E f= .fn (.func g) a vb/\E.imp g=true/\qJ E g (a++c.args.toList.map (fr.ev E)++vb) (fr.d+1) σ fun v σ1=> ∃st1,aH ρ (ay+1) st1 (fr.put o.dst v) σ1/\σ.next<=σ1.next/\(∀p,aY false p st ρ σ st1 ρ σ1)/\k st1=some x:=by
 unfold zI at h
 split at h
 ·rename_i c hop
  split at h
  ·rename_i f fu
   split at h
   ·rename_i g a' b' vs hf hvs
    obtain⟨hnd,h⟩:=dO h
    generalize aqK:rQ (a'++vs++b') []=ids at*
    split at h
    ·rename_i r x' hfm
     obtain⟨⟨y,q'⟩,hy,hk⟩:=iR.1 h
     obtain⟨hr,p,q,hp,hq,hks,hsc,hok,rfl⟩:=ZU hfm
     obtain⟨va,vb,KN,hva,hvb⟩:=(bf (E:=E) hi .nil hf).mP
     have hA:=(hva.append (uI (E:=E) hi .nil hvs)).append hvb
     let ρc:aN:=⟨fun p=>if F0<=p then (ids[p-F0]?).bind ρ.ob else none,fun _=>none,fun p=>if F0<=p then (match ids[p-F0]? with|some o=>ρ.ln o|none=>0) else 0,ρ.om.call (E.om g) σ.next ids hnd⟩
     have hρ:∀{p o},F0<=p->ids[p-F0]? =some o->ρc.om.lc p=ρ.om.lc o/\ρc.ob p=ρ.ob o/\ρc.ln p=ρ.ln o:=fun {p o} h1 h2=>by
      refine⟨Cx.ajt (hnd:=hnd) h1 h2, ?_, ?_⟩
      ·show (if F0<=p then (ids[p-F0]?).bind ρ.ob else none)=_
       rw[if_pos h1,h2];rfl
      ·show (if F0<=p then (match ids[p-F0]? with|some o=>ρ.ln o|none=>0) else 0)=_
       rw[if_pos h1,h2]
     have hm:∀o p,look (kH ids F0) o=some p->ρc.om.lc p=ρ.om.lc o/\ρc.ob p=ρ.ob o/\ρc.ln p=ρ.ln o:=fun o p hp=>by
      obtain⟨h1,h2⟩:=ZM hp
      exact hρ h1 h2
     obtain⟨himp,hF⟩:=hM g r hr
     obtain⟨n,v,σ',hcall,hv,aju,hnx,hlp,htp,hout⟩:=hF p q y q' hy ρc (va++c.args.toList.map (fr.ev E)++vb) σ rfl (fun _=>rfl) (RS _) (xY hR r.args p _ _ hp (au.ren hm _ _ hA)) (fun i w hw=>by
      obtain⟨kk,yy,z,h1,h2,rfl,h4⟩:=Mq r.obs q hq i w hw
      obtain⟨o',h5,h6,h7⟩:=Tm h1
      obtain⟨e1,e2,e3⟩:=hρ h5 h6
      exact Tq (h4 hok) e2 e3 e1 (LP hR h2 (hi.ob _ _ h7)))
     have hst:∀s,s<ay->σ'.top s=σ.top s:=fun s hs=>htp s (adV hs hsn)
     have hno:∀o',o'∉ids->σ'.obj (ρ.om.lc o')=σ.obj (ρ.om.lc o'):=fun o' ho'=>
      hout _ (Nat.le_succ_of_le (ρ.om.CV o')) (Cx.ZV (hnd:=hnd) (ρ.om.CV o') fun o'' h2 e=>ho' (by rw[ρ.om.R6 e];exact h2))
     have Sz:aH ρ (ay+1) (⟨st.fr,rR (kH ids F0) (jg R r.obs q')++st.ob⟩:MS R.T) fr σ':={
      d:=hi.d
      om:=hi.om
      fr:=fun i w hw=>(hi.fr i w hw).top fun u s hu=>hst s (hi.lt u s hu)
      ob:=fun o' w hw=>by
       have hw':look (rR (kH ids F0) (jg R r.obs q')++st.ob) o'=some w:=hw
       rw[vV] at hw'
       split at hw'
       ·rename_i z hz
        cases hw'
        obtain⟨p',h1,h2,h3⟩:=Tn hz
        obtain⟨kk,zz,h4,rfl⟩:=ZP hok h3
        obtain⟨e1,e2,e3⟩:=hρ h1 h2
        exact Tq h4 e2.symm e3.symm e1.symm (aju _ _ h3)
       ·rename_i hz
        have hn:=ZO (fun p' h1 h2=>Ml hks p' h1 h2) hz
        exact Tt (hno o' hn) (fun u s hu=>hst s (hi.lt u s hu)) (hi.ob _ _ hw')
      inj:=hi.inj
      lt:=fun t s ht=>Nat.lt_succ_of_lt (hi.lt t s ht)
      ge:=hi.ge
      nx:=Nat.le_succ_of_le hi.nx}
     refine⟨c,f,g,va,vb,hop,fu,KN,himp,n,v,σ', ?_,_, ?_,hnx, ?_,hk⟩
     ·rw[hi.d];exact hcall
     ·rw[hv]
      exact Sz.fA o.dst (ajs (ZT hsc))
     ·intro p'
      refine aY.congr (st':=(⟨st.fr,rR (kH ids F0) (jg R r.obs q')++st.ob⟩:MS R.T)) ⟨rfl,rfl,rfl,hnx,⟨hlp,fun s hs=>hst s (adV hs hi.nx)⟩,fun L hL ho=> ?_,fun hro=> ?_⟩ l6
      ·have hL':L.1<=ρ.om.dp:=by rcases hL with e|e;cases e;exact e
       exact hout L (Nat.le_succ_of_le hL') (Cx.ZV (hnd:=hnd) hL' fun o' _=>ho o')
      ·have hn:p'∉ids:=by
        intro hmem
        obtain⟨i,hi'⟩:=List.getElem?_of_mem hmem
        have hlt:i<ids.length:=by
         rcases Nat.lt_or_ge i ids.length with h|h
         ·exact h
         ·rw[List.getElem?_eq_none h] at hi';cases hi'
        obtain⟨w,hw⟩:=Ml (q:=q) hks (F0+i) (ajO _ _) (by omega)
        obtain⟨kk,yy,z,h1,h2,_,_⟩:=Mq r.obs q hq _ _ hw
        obtain⟨o',h5,h6,h7⟩:=Tm h1
        rw[al7,hi'] at h6
        cases h6
        exact Sv h2 (hro _ h7)
       refine⟨fun w hw=> ?_,fun s=> ?_⟩
       ·have hw':look (rR (kH ids F0) (jg R r.obs q')++st.ob) p'=some w:=hw
        rw[vV] at hw'
        split at hw'
        ·rename_i z hz
         obtain⟨p'',h1,h2,h3⟩:=Tn hz
         exact absurd (ajn h2) hn
        ·exact hro _ hw'
       ·unfold ah.cB ah.fP
        rw[hno p' hn]
        exact⟨rfl,rfl⟩
    ·cases h
   ·cases h
  ·cases h
 ·cases h
end
end Aq
end
