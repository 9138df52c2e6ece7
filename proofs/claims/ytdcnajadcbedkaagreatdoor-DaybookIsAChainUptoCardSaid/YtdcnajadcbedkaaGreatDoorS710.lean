/- Part of the proof of a law. -/
import Derived.Test.YtdcnajadcbedkaaGreatDoorS709
set_option linter.all false
set_option linter.unusedSimpArgs false
set_option linter.unusedSectionVars false
section
namespace Aq
open Go
set_option linter.unusedSectionVars false
set_option linter.unusedVariables false
section
variable {R:gy} {E:Env}
variable {ρ:aK} {top:Nat→Nat} {b aB:Nat} {st:MS R.T} {fr:Fr} {σ:ah} {o:Oper}
theorem Ip {P:Program} {t e:TypeId} {n:Nat} (h:ow P t=some (n,e)):P.underlying t=some (.array n e):=by
 unfold ow at h
 split at h
 ·rename_i n' e' hu;cases h;exact hu
 ·cases h
theorem xH {t:TypeId} (h:oW E t=true):bq E.P t=some 1∧fZ E.P t=some false:=by
 unfold oW at h
 split at h
 ·rename_i sz ag h1 h2
  rw[Bool.and_eq_true] at h
  rw[dB h.1] at h1
  cases ag
  ·exact⟨h1,h2⟩
  ·simp at h
 ·cases h
theorem vJ (a b:List Sg):iB (a++b)=iB a+iB b:=by rw[←fI,og,List.length_append,fI,fI]
theorem U9 {pre rest:List Sg} {n:Nat} (h:iB pre=n) (k:Nat):(bn (pre++rest)).drop (n+k)=(bn rest).drop k:=by
 rw[og,←h,←fI,List.drop_append,List.drop_of_length_le (by omega),List.nil_append,Nat.add_sub_cancel_left]
theorem Iq (s:Sg) (l:List Sg):bn (s::l)=s.vs++bn l:=rfl
theorem Ir (s:Sg) (l:List Sg):iB (s::l)=s.w+iB l:=rfl
theorem NU {ρ:aK} {top:Nat→Nat} (k:IntKind):∀l:List Int,au R ρ top (l.map (TV.int k)) (l.map (V.int k))
 | []=>rfl
 |x::l=>.cons' (by unfold Rl;rfl) (NU k l)
theorem aer {n:Nat} (v:Vec n):(List.range n).map v.nth=v.l:=by
 apply List.ext_getElem
 ·rw[List.length_map,List.length_range,v.h]
 ·intro i h1 h2
  rw[List.getElem_map,List.getElem_range]
  unfold Vec.nth
  rw[List.getD_eq_getElem?_getD,List.getElem?_eq_getElem h2];rfl
theorem NV {ρ:aK} {top:Nat→Nat}:∀ss:List Sg,au R ρ top (C8 ss) (bn ss)
 | []=>rfl
 |.i k x::l=>.cons' (by unfold Rl;rfl) (NV l)
 |.a k n v::l=>by
  show au R ρ top ((List.range n).map (fun j=>TV.int k (v.nth j))++C8 l) (v.l.map (V.int k)++bn l)
  refine au.append ?_ (NV l)
  have:(List.range n).map (fun j=>TV.int (T:=R.T) k (v.nth j))=v.l.map (TV.int k):=by
   rw[←aer v,List.map_map];rfl
  rw[this]
  exact NU k v.l
theorem Va {t:TypeId} {ss:List Sg} {off:Nat} {v:TV R.T} (h:Hq E R t ss off=some v):∃y,dD E.P t (bn ss) off=some y∧Rl R ρ top v y:=by
 unfold Hq at h
 split at h
 ·rename_i pre rest sz ag h1 h2 h3
  obtain⟨e1,w1⟩:=qP h1
  split at h
  ·rename_i mid post h4
   obtain⟨e2,w2⟩:=qP h4
   have hd:(bn ss).drop off=bn mid++bn post:=by
    have:=U9 (rest:=rest) w1 0
    rw[←e1,Nat.add_zero] at this
    rw[this,e2,og];rfl
   have hlen:(bn ss).length=off+(sz+iB post):=by rw[fI,e1,vJ,w1,e2,vJ,w2]
   unfold dD;rw[h3,h2];simp only[Option.bind_some]
   cases ag with
   |true=>
    rw[cond_true] at h
    have hp:lV true sz (bn ss) off=some (.agg (bn mid)):=by
     unfold lV;rw[if_pos rfl,if_pos (by omega),hd,List.take_append_of_le_length (by rw[fI,w2];exact Nat.le_refl _),List.take_of_length_le (by rw[fI,w2];exact Nat.le_refl _)]
    split at h
    ·cases h;exact⟨_,hp,by unfold Rl;rfl⟩
    ·cases h;exact⟨_,hp,by unfold Rl;exact⟨_,rfl,NV mid⟩⟩
   |false=>
    rw[cond_false] at h
    split at h
    ·rename_i k x
     cases h
     refine⟨.int k x, ?_,by unfold Rl;rfl⟩
     unfold lV;simp only[Bool.false_eq_true,if_false]
     have:=congrArg (fun l=>l[0]?) hd
     rw[List.getElem?_drop,Nat.add_zero] at this
     rw[this];rfl
    ·cases h
  ·cases h
 ·cases h
theorem Vb {n:Nat} (v:Vec n) {i:Int} (h:i.toNat<n):v.l[i.toNat]? =some (v.at' i):=by
 unfold Vec.at'
 rw[List.getD_eq_getElem?_getD,List.getElem?_eq_getElem (by rw[v.h];exact h)];rfl
theorem Vd {ss pre post:List Sg} {off n:Nat} {k:IntKind} {v:Vec n} {i:Int} {t:TypeId} (h:mY ss off=some (pre,.a k n v::post)) (hi:i.toNat<n) (ht:oW E t=true):dD E.P t (bn ss) (off+i.toNat)=some (.int k (v.at' i)):=by
 obtain⟨e1,w1⟩:=qP h
 obtain⟨h1,h2⟩:=xH ht
 unfold dD;rw[h1,h2];simp only[Option.bind_some]
 unfold lV;simp only[Bool.false_eq_true,if_false]
 rw[e1,og,List.getElem?_append_right (by rw[fI,w1];omega),fI,w1,Nat.add_sub_cancel_left,Iq,List.getElem?_append_left (by rw[Sg.len];exact hi)]
 show (v.l.map (V.int k))[i.toNat]? =_
 rw[List.getElem?_map,Vb v hi];rfl
theorem Dt {n:Nat} {l:List Int} (h:l.length=n):(Vec.lit n l).l=l:=by
 unfold Vec.lit;rw[dif_pos h]
theorem aes {l:List Int} {a m:Nat} (h:a+m≤l.length):(List.range m).map (fun j=>l.getD (a+j) 0)=(l.drop a).take m:=by
 apply List.ext_getElem
 ·rw[List.length_map,List.length_range,List.length_take,List.length_drop];omega
 ·intro i h1 h2
  rw[List.length_map,List.length_range] at h1
  rw[List.getElem_map,List.getElem_range,List.getElem_take,List.getElem_drop,List.getD_eq_getElem?_getD,List.getElem?_eq_getElem (by omega)];rfl
theorem aeu {t:TypeId} {ss pre post:List Sg} {off n m:Nat} {k:IntKind} {v:Vec n} {i:Int} {y:TV R.T} (h:mY ss off=some (pre,.a k n v::post)) (hi:i.toNat+m≤n) (hs:MU E R t k m n v i=some y):∃x,dD E.P t (bn ss) (off+i.toNat)=some x∧Rl R ρ top y x:=by
 obtain⟨e1,w1⟩:=qP h
 unfold MU at hs
 split at hs
 ·rename_i m' e sz h1 h2 h3
  obtain⟨hc,hs⟩:=cB hs
  rw[Bool.and_eq_true] at hc
  have e2:=dB hc.1;have e3:=dB hc.2
  rw[e3] at h2
  have hp:dD E.P t (bn ss) (off+i.toNat)=some (.agg (((v.l.drop i.toNat).take m).map (V.int k))):=by
   unfold dD;rw[h3,h2];simp only[Option.bind_some]
   unfold lV
   rw[if_pos rfl,if_pos (by rw[fI,e1,vJ,w1,Ir];show off+i.toNat+m≤off+(n+_);omega)]
   rw[e1,U9 w1,Iq]
   show some (V.agg ((((v.l.map (V.int k))++bn post).drop i.toNat).take m))=_
   rw[List.drop_append_of_le_length (by rw[List.length_map,v.h];omega),List.take_append_of_le_length (by rw[List.length_drop,List.length_map,v.h];omega),List.map_take,List.map_drop]
  refine⟨_,hp, ?_⟩
  have hl:((v.l.drop i.toNat).take m).length=m:=by rw[List.length_take,List.length_drop,v.h];omega
  split at hs
  ·cases hs
   unfold Rl
   show V.agg _= .agg (((v.slc i m).l.map (V.int k))++[])
   unfold Vec.slc
   rw[Dt hl,List.append_nil]
  ·cases hs
   unfold Rl
   refine⟨_,rfl, ?_⟩
   have:=aes (l:=v.l) (a:=i.toNat) (m:=m) (by rw[v.h];exact hi)
   have e:(List.range m).map (fun j=>TV.int (T:=R.T) k (v.nth (i.toNat+j)))=((v.l.drop i.toNat).take m).map (TV.int k):=by
    rw[←this,List.map_map];rfl
   rw[e];exact NU k _
 ·cases hs
def kW:List iJ→Nat
 | []=>0
 |.i _::l=>1+kW l
 |.a _ n::l=>n+kW l
theorem Iu:∀ss:List Sg,kW (ss.map Sg.sk)=iB ss
 | []=>rfl
 |.i k x::l=>by show 1+kW (l.map Sg.sk)=1+iB l;rw[Iu l]
 |.a k n v::l=>by show n+kW (l.map Sg.sk)=n+iB l;rw[Iu l]
theorem aev:∀{ks:List iJ} {cs:List (TV R.T)} {ss:List Sg} {vs:List V},vB ks cs=some ss→au R ρ top cs vs→vs=bn ss∧iB ss=kW ks:=by
 intro ks
 induction ks with
 |nil=>
  intro cs ss vs h hr
  cases cs with
  |nil=>cases h;exact⟨hr.eX,rfl⟩
  |cons c cs=>cases h
 |cons k ks ih=>
  intro cs ss vs h hr
  cases k with
  |i k=>
   cases cs with
   |nil=>cases h
   |cons c cs=>
    obtain⟨v,ws,rfl,h1,h2⟩:=hr.dA
    cases c<;>first| (exact absurd (show none=some ss from h) (by simp))|skip
    rename_i k' x
    have h':(if k'=k then (match vB ks cs with
     |some r=>some (Sg.i k x::r)
     |none=>none) else none)=some ss:=h
    by_cases e:k'=k
    ·subst e
     rw[if_pos rfl] at h'
     cases hc:vB ks cs with
     |none=>rw[hc] at h';cases h'
     |some r=>
      rw[hc] at h';cases h'
      obtain⟨g1,g2⟩:=ih hc h2
      exact⟨by rw[h1.fE,g1];rfl,by show 1+iB r=1+kW ks;rw[g2]⟩
    ·rw[if_neg e] at h';cases h'
  |a k n=>
   have h':(match wV k (cs.take n) with
    |some xs=>bif Nat.beq xs.length n then (match vB ks (cs.drop n) with
     |some r=>some (Sg.a k n (Vec.lit n xs)::r)
     |none=>none) else none
    |none=>none)=some ss:=by cases cs<;>exact h
   cases hx:wV k (cs.take n) with
   |none=>rw[hx] at h';cases h'
   |some xs=>
    rw[hx] at h'
    dsimp only at h'
    obtain⟨hb,h'⟩:=cB h'
    have hb:=dB hb
    cases hc:vB ks (cs.drop n) with
    |none=>rw[hc] at h';cases h'
    |some r=>
     rw[hc] at h';cases h'
     obtain⟨g1,g2⟩:=ih hc (hr.drop n)
     have g3:=NS hx (hr.take n)
     refine⟨?_,by show n+iB r=n+kW ks;rw[g2]⟩
     show vs=(Vec.lit n xs).l.map (V.int k)++bn r
     rw[Dt hb,←g3,←g1,List.take_append_drop]
theorem NW:∀{a b:List iJ},zM a b=true→a=b
 | [],[],_=>rfl
 |.i k::l,.i k'::l',h=>by
  have h':((if k=k' then true else false)&& zM l l')=true:=h
  rw[Bool.and_eq_true] at h'
  have e:k=k':=by by_cases e:k=k';exact e;rw[if_neg e] at h';cases h'.1
  rw[e,NW h'.2]
 |.a k n::l,.a k' n'::l',h=>by
  have h':((if k=k' then true else false)&& Nat.beq n n'&& zM l l')=true:=h
  rw[Bool.and_eq_true,Bool.and_eq_true] at h'
  have e:k=k':=by by_cases e:k=k';exact e;rw[if_neg e] at h';cases h'.1.1
  rw[e,dB h'.1.2,NW h'.2]
 | [],.i _::_,h=>by cases h
 | [],.a _ _::_,h=>by cases h
 |.i _::_,[],h=>by cases h
 |.a _ _::_,[],h=>by cases h
 |.i _::_,.a _ _::_,h=>by cases h
 |.a _ _::_,.i _::_,h=>by cases h
theorem Du:∀ss:List Sg,aW (bn ss)=true
 | []=>rfl
 |.i k x::l=>by show (oneCell (.int k x)&& aW (bn l))=true;rw[Du l];rfl
 |.a k n v::l=>by
  show aW (v.l.map (V.int k)++bn l)=true
  have h1:=Du l
  unfold aW at h1⊢
  rw[List.all_append,h1,List.all_map];simp[oneCell]
theorem Ve {ks:List iJ} {tv:TV R.T} {ss:List Sg} {v:V} (h:Ho ks tv=some ss) (hr:Rl R ρ top tv v):v.cells=bn ss∧iB ss=kW ks∧bV v=true:=by
 unfold Ho at h
 split at h
 ·rename_i ss'
  obtain⟨h1,h⟩:=cB h
  cases h
  rw[hr.Df,NW h1]
  exact⟨rfl,(Iu ss).symm,rfl⟩
 ·obtain⟨l,rfl,hl⟩:=hr.jA
  obtain⟨h1,h2⟩:=aev h hl
  exact⟨h1,h2,rfl⟩
 ·rename_i k x
  split at h
  ·split at h
   ·rename_i e;subst e;cases h
    rw[hr.fE];exact⟨rfl,rfl,rfl⟩
   ·cases h
  ·cases h
 ·cases h
theorem NY {k:IntKind}:∀{cs:List (TV R.T)} {vs:List V},wZ k cs=true→au R ρ top cs vs→vs=List.replicate cs.length (V.int k 0)
 | [],vs,_,hr=>hr.eX
 |c::cs,vs,h,hr=>by
  obtain⟨v,ws,rfl,h1,h2⟩:=hr.dA
  cases c<;>first| (exact absurd (show false=true from h) (by simp))|skip
  rename_i k' x
  have h':((if k'=k then (if x=0 then true else false) else false)&& wZ k cs)=true:=h
  rw[Bool.and_eq_true] at h'
  have e1:k'=k:=by by_cases e:k'=k;exact e;rw[if_neg e] at h';cases h'.1
  have e2:x=0:=by by_cases e:x=0;exact e;rw[if_pos e1,if_neg e] at h';cases h'.1
  rw[h1.fE,e1,e2,NY h'.2 h2];rfl
theorem aew:∀{ks:List iJ} {cs:List (TV R.T)} {vs:List V},zL ks cs=true→au R ρ top cs vs→vs=bn (ks.map Hl):=by
 intro ks
 induction ks with
 |nil=>
  intro cs vs h hr
  cases cs with
  |nil=>exact hr.eX
  |cons c cs=>cases h
 |cons k ks ih=>
  intro cs vs h hr
  cases k with
  |i k=>
   cases cs with
   |nil=>cases h
   |cons c cs=>
    obtain⟨v,ws,rfl,h1,h2⟩:=hr.dA
    have h':(wZ k [c]&& zL ks cs)=true:=h
    rw[Bool.and_eq_true] at h'
    have:=NY h'.1 (au.cons' h1 au.nil')
    cases this
    rw[ih h'.2 h2];rfl
  |a k n=>
   have h':(Nat.ble n cs.length&& wZ k (cs.take n)&& zL ks (cs.drop n))=true:=by cases cs<;>exact h
   rw[Bool.and_eq_true,Bool.and_eq_true] at h'
   have h1:=Nat.le_of_ble_eq_true h'.1.1
   have h2:=NY h'.1.2 (hr.take n)
   have h3:=ih h'.2 (hr.drop n)
   rw[←List.take_append_drop n vs,h2,h3,List.length_take,Nat.min_eq_left h1]
   show _=(List.replicate n (0:Int)).map (V.int k)++bn (ks.map Hl)
   rw[List.map_replicate]
theorem aex {pre mid post mid':List Sg} {off sz:Nat} (h1:iB pre=off) (h2:iB mid=sz) (h3:iB mid'=sz):eB (bn (pre++(mid++post))) off (bn mid')=bn (pre++(mid'++post)):=by
 unfold eB
 rw[og,og,og,og,fI,h3]
 rw[List.take_append_of_le_length (by rw[fI,h1];exact Nat.le_refl _),List.take_of_length_le (by rw[fI,h1];exact Nat.le_refl _)]
 rw[←List.append_assoc (bn pre) (bn mid),List.drop_append_of_le_length (by rw[List.length_append,fI,fI,h1,h2];exact Nat.le_refl _),List.drop_of_length_le (by rw[List.length_append,fI,fI,h1,h2];exact Nat.le_refl _)]
 rw[List.nil_append,List.append_assoc]
theorem Vf {pre post:List Sg} {off n a:Nat} {k:IntKind} {v w:Vec n} {l:List Int} (h1:iB pre=off) (h2:a+l.length≤n) (h3:w.l=v.l.take a++l++v.l.drop (a+l.length)):eB (bn (pre++(.a k n v::post))) (off+a) (l.map (V.int k))=bn (pre++(.a k n w::post)):=by
 unfold eB
 rw[og,og,Iq,Iq]
 show ((bn pre++(v.l.map (V.int k)++bn post)).take (off+a)++l.map (V.int k)++(bn pre++(v.l.map (V.int k)++bn post)).drop (off+a+(l.map (V.int k)).length))=bn pre++(w.l.map (V.int k)++bn post)
 have hp:(bn pre).length=off:=by rw[fI,h1]
 have hv:(v.l.map (V.int k)).length=n:=by rw[List.length_map,v.h]
 rw[List.length_map]
 rw[List.take_append,List.take_of_length_le (by omega),hp,Nat.add_sub_cancel_left,List.take_append_of_le_length (by omega)]
 rw[List.drop_append,List.drop_of_length_le (by omega),hp,List.nil_append,show off+a+l.length-off=a+l.length by omega,List.drop_append_of_le_length (by omega)]
 rw[h3,List.map_append,List.map_append,List.map_take,List.map_drop]
 simp only[List.append_assoc]
theorem aey {l:List Int} {a:Nat} {y:Int} (h:a<l.length):l.set a y=l.take a++[y]++l.drop (a+1):=by
 rw[List.set_eq_take_append_cons_drop,if_pos h];simp
theorem NZ {g:Nat} {t:TypeId} {k:IntKind} {n:Nat} {v:Vec n} (h:Ht E R g t=some ⟨k,n,v⟩):∃cs e,E.glob g=some cs∧cs=v.l.map (V.int k)∧ow E.P t=some (n,e)∧bq E.P t=some n∧fZ E.P t=some true∧oW E e=true:=by
 unfold Ht at h
 split at h
 ·rename_i cs k' n' v' m e sz ag h1 h2 h3 h4 h5
  obtain⟨hc,h⟩:=cB h
  cases h
  simp only[Bool.and_eq_true] at hc
  obtain⟨⟨⟨⟨c1,c2⟩,c3⟩,c4⟩,c5⟩:=hc
  subst c1
  rw[dB c2] at h3;rw[dB c3] at h4
  refine⟨cs,e,h1, ?_,h3,h4,h5,c4⟩
  have key:∀(cs:List V) (l:List Int),Hr k cs l=true→cs=l.map (V.int k):=by
   intro cs
   induction cs with
   |nil=>intro l h;cases l with
    |nil=>rfl
    |cons y l=>cases h
   |cons c cs ih=>
    intro l h
    cases l with
    |nil=>cases c<;>cases h
    |cons y l=>
     cases c<;>first| (exact absurd (show false=true from h) (by simp))|skip
     rename_i k' x
     have h':((if k'=k then (if x=y then true else false) else false)&& Hr k cs l)=true:=h
     rw[Bool.and_eq_true] at h'
     have e1:k'=k:=by by_cases e:k'=k;exact e;rw[if_neg e] at h';cases h'.1
     have e2:x=y:=by by_cases e:x=y;exact e;rw[if_pos e1,if_neg e] at h';cases h'.1
     rw[e1,e2,ih l h'.2];rfl
  exact key cs v.l c5
 ·cases h
theorem Iw {i:Int} {n:Nat} (h:dM i n=true):0≤i∧i<n∧i.toNat<n:=by
 have:=of_decide_eq_true h
 omega
theorem N7 {k:IntKind} {i:Int} {n:Nat} (h:dM i n=true):idx (.int k i) n=some i.toNat:=by
 obtain⟨h1,h2,_⟩:=Iw h
 simp[idx,kD,h1,h2]
theorem Iy {k:IntKind} {i:Int} {n:Nat} (h1:0≤i) (h2:i≤n):bnd (.int k i) n=some i.toNat:=by
 simp[bnd,kD,h1,h2]
theorem aez {n:Nat} {lo hi:Option Int} {vl vh:Option V} (hl:(lo=none∧vl=none)∨∃n k,lo=some n∧vl=some (.int k n)) (hh:(hi=none∧vh=none)∨∃n k,hi=some n∧vh=some (.int k n)) (hb:l7 n lo hi=true):
 iY n n vl vh none=some ((bY lo).toNat,(fC n hi).toNat,n):=by
 rcases hl with ⟨rfl,rfl⟩| ⟨a,k,rfl,rfl⟩<;>rcases hh with ⟨rfl,rfl⟩| ⟨c,k',rfl,rfl⟩<;>simp only[l7,decide_eq_true_eq] at hb
 ·simp[iY,bY,fC]
 ·simp[iY,bY,fC,Iy hb.1 hb.2]
 ·simp[iY,bY,fC,Iy (i:=a) (n:=n) hb.1 (by omega)]
 ·simp[iY,bY,fC,Iy (i:=c) (n:=n) (by omega) hb.2.2.1,Iy (i:=a) (n:=c.toNat) hb.1 (by omega)]
theorem aeA {P:Program} {t e:TypeId} {y:V} {ys cs:List V} {loc:Aq.Loc} {s off len cap:Nat} {ag:Bool} (he:gN P t=some e) (z1:bq P e=some 1) (z2:fZ P e=some false) (q2:qX y=false) (q1:jo σ false 1 aA y=some ys) (hone:ys.all (fun v=>aW v.cells)=true)
 (h4:σ.bC loc s=some cs) (hb:off+min ys.length len≤cs.length):copyV P σ t (.vw loc s off len cap 1 ag) y=some (.int .i64 (min ys.length len:Nat),σ.setObj loc s (.cells (eB cs off ((ys.take (min ys.length len)).flatMap V.cells)))):=by
 unfold copyV
 rw[he];simp only[Option.bind_some,z1,z2]
 rw[if_pos ⟨q2,rfl⟩,q1];simp only[Option.bind_some]
 rw[if_pos hone,h4];simp only[Option.bind_some]
 rw[if_pos ⟨trivial,by rw[Nat.mul_one];exact hb⟩]
theorem Iz {t:TypeId} {x:TV R.T} {lo hi:Option (TV R.T)} {v:V} {vl vh:Option V} {r:dh R} (h:vC E R t x lo hi st=some r) (hx:Rl R ρ σ.top x v) (him:aG ρ b st fr σ)
 (hl:∀y,lo=some y→∃w,vl=some w∧Rl R ρ σ.top y w) (hln:lo=none→vl=none) (hh:∀y,hi=some y→∃w,vh=some w∧Rl R ρ σ.top y w) (hhn:hi=none→vh=none):nC ρ σ.top (kE E.P σ t v vl vh none) r:=by
 unfold vC at h
 split at h
 ·rename_i p off lo' hi' n e e1 e2 ha
  have b1:=Ic e1 hl hln
  have b2:=Ic e2 hh hhn
  obtain⟨hel,h⟩:=cB h
  obtain⟨z1,z2⟩:=xH hel
  obtain⟨s,h1,rfl⟩:=hx.nk
  have fin:∀(k:IntKind) (cs:List V),σ.bC (ρ.om.lc p) s=some cs→off+n≤cs.length→l7 n lo' hi'=true→∃y,kE E.P σ t (.ref (ρ.om.lc p) s off) vl vh none=some y∧Rl R ρ σ.top (.sv p off k n lo' hi') y:=by
   intro k cs hc hlen hB
   obtain⟨p1,p2,p3,_,_⟩:=xG hB
   refine⟨_, ?_,by unfold Rl;exact⟨s,h1,hB,rfl⟩⟩
   unfold kE
   rw[Ip ha];dsimp only
   rw[z1,z2,aez b1 b2 hB,hc]
   simp only[Option.bind_some,Nat.mul_one]
   rw[if_pos hlen,if_neg (by omega)]
  split at h
  ·rename_i ss hl'
   obtain⟨s',h3,h4⟩:=him.rd hl'
   rw[h1] at h3;cases h3
   split at h
   ·rename_i pre k n' v' post hsp
    obtain⟨hb,h⟩:=cB h
    have:=dB hb;subst this
    cases h
    obtain⟨e3,hw⟩:=qP hsp
    intro hc
    exact fin k _ h4 (by rw[fI,e3,vJ,hw,Ir];show off+n'≤off+(n'+_);omega) hc
   ·cases h
  ·rename_i cs hl'
   obtain⟨s',vs,h3,h4,h5⟩:=him.rd hl'
   rw[h1] at h3;cases h3
   split at h
   ·rename_i k _ _ _
    obtain⟨hb,h⟩:=cB h
    cases h
    intro hc
    exact fin k _ h4 (by rw[h5.length];exact Nat.le_of_ble_eq_true hb) hc
   ·cases h
  ·cases h
 ·cases h
end
end Aq
end
section
namespace Aq
open Go
set_option linter.unusedSectionVars false
set_option linter.unusedVariables false
section
variable {R:gy} {E:Env}
variable {ρ:aK} {top:Nat→Nat} {b aB:Nat} {st:MS R.T} {fr:Fr} {σ:ah} {o:Oper}
theorem qc.val {v:Option V} {r:dh R} (hv:nC ρ σ.top v r) (ho:∀y,v=some y→aT E fr σ aB o=some (y,σ)):qc E st ρ aB fr σ o r:=by
 cases r with
 |t x=>obtain⟨y,e,hr⟩:=hv;exact⟨y,.gV (ho y e),hr⟩
 |c c x=>intro hc;obtain⟨y,e,hr⟩:=hv hc;exact⟨y,.gV (ho y e),hr⟩
 |p α d o' f=>intro a ha;obtain⟨y,e,hr⟩:=hv a ha;exact⟨y,.gV (ho y e),hr⟩
 |w x s=>exact hv.elim
 |wc c x s=>exact hv.elim
theorem qc.tt {x:TV R.T} {y:V} (ho:aT E fr σ aB o=some (y,σ)) (hr:Rl R ρ σ.top x y):qc E st ρ aB fr σ o (.t x):=⟨y,.gV ho,hr⟩
theorem Dv {x:Operand}:gq E fr (some x)=some (fr.ev E x):=rfl
theorem Vg {top:Nat→Nat} {x y v:TV R.T} {w:V} (h:zK true x y=some v) (hx:Rl R ρ top x w):Rl R ρ top v w:=by
 unfold zK at h
 split at h<;>try cases h
 ·split at h
  ·cases h;exact hx
  ·cases h
 all_goals first|exact hx| (unfold Rl at hx⊢;exact hx)
theorem Vh {top:Nat→Nat} {x y v:TV R.T} {w:V} (h:zK false x y=some v) (hx:Rl R ρ top y w):Rl R ρ top v w:=by
 unfold zK at h
 split at h<;>try cases h
 ·split at h
  ·rename_i e;subst e;cases h;exact hx
  ·cases h
 all_goals first|exact hx| (unfold Rl at hx⊢;exact hx)
theorem Al {c a' b':Operand} {t:Bool} (hop:o.op= .pick c a' b') (hc:fr.ev E c= .bool t):aT E fr σ aB o=some (if t then fr.ev E a' else fr.ev E b',σ):=by
 simp only[aT,hop,hc,mI,Option.map_some]
variable (hR:l9 R)
include hR
theorem aeB {t:TypeId} {m x:TV R.T} {v w:V} {ok:Bool} {r:dh R} (h:G9 E R t m x ok st=some r) (hm:Rl R ρ σ.top m v) (hx:Rl R ρ σ.top x w) (hi:aG ρ b st fr σ):nC ρ σ.top (qW E.P σ t v w ok) r:=by
 unfold G9 at h
 split at h
 ·rename_i o
  split at h
  ·rename_i k e m hl
   obtain⟨s,h1,rfl⟩:=hm.tH
   obtain⟨s',h2,h3⟩:=hi.rd hl
   rw[h1] at h2;cases h2
   exact Nz hR h hx h3
  ·cases h
 ·rename_i k e m
  exact Nz hR h hx (by rw[hm.zX];rfl)
 ·split at h
  ·split at h
   ·unfold Rl at hm;subst hm
    exact Nz hR h hx rfl
   ·cases h
  ·cases h
 ·cases h
omit hR in
theorem Vi {top:Nat→Nat} {x y:TV R.T} {v w:V} {r:Bool} (h:He x y=some r) (hx:Rl R ρ top x v) (hy:Rl R ρ top y w):kR v w=some r:=by
 unfold He at h
 split at h
 ·rw[hx.fE,hy.fE];exact h
 ·cases h;rw[hx.lq,hy.lq];rfl
 ·cases h
omit hR in
theorem Vj {top:Nat→Nat} {t:TypeId} {x:TV R.T} {v:V} (h:Hf E t x=true) (hx:Rl R ρ top x v):jK E.P t v=true:=by
 unfold Hf at h
 split at h
 ·rename_i hu;rw[hx.fE];unfold jK;rw[hu]
 ·rename_i hu;rw[hx.lq];unfold jK;rw[hu]
 ·cases h
omit hR in
theorem Vk {top:Nat→Nat} {x y:TV R.T} {v w:V} (hx:Rl R ρ top x v) (hy:Rl R ρ top y w):∀{ks vs:List (TV R.T)} {ks' vs':List (TV R.T)} {k l:List V},Hg x y ks vs=some (ks',vs')→au R ρ top ks k→au R ρ top vs l→
 ∃k' l',qV v w k l=some (k',l')∧au R ρ top ks' k'∧au R ρ top vs' l'
 | [],[],_,_,k,l,h,h1,h2=>by
   cases h
   rw[h1.eX,h2.eX]
   exact⟨_,_,rfl,.cons' hx rfl,.cons' hy rfl⟩
 | [],_::_,_,_,_,_,h,_,_=>by cases h
 |_::_,[],_,_,_,_,h,_,_=>by cases h
 |a::ks,b::vs,ks',vs',k,l,h,h1,h2=>by
  obtain⟨k0,k,rfl,g1,g2⟩:=h1.dA
  obtain⟨l0,l,rfl,g3,g4⟩:=h2.dA
  unfold Hg at h
  split at h
  ·rename_i c hc
   have he:=Vi hc hx g1
   cases c with
   |true=>cases h;exact⟨v::k,w::l,by simp[qV,he],.cons' hx g2,.cons' hy g4⟩
   |false=>
    rw[cond_false] at h
    split at h
    ·rename_i ks1 vs1 hs
     cases h
     obtain⟨k',l',e1,e2,e3⟩:=Vk hx hy hs g2 g4
     exact⟨k0::k',l0::l',by simp[qV,he,e1],.cons' g1 e2,.cons' g3 e3⟩
    ·cases h
  ·cases h
theorem Vl {t:TypeId} {m x y:TV R.T} {v w u:V} {r:dh R} (h:zG E R t m x y st=some r) (hm:Rl R ρ σ.top m v) (hx:Rl R ρ σ.top x w) (hy:Rl R ρ σ.top y u) (hi:aG ρ aB st fr σ)
 (ho:∀σ',oz E.P σ t v w u=some σ'→aT E fr σ aB o=some (aA,σ')):qc E st ρ aB fr σ o r:=by
 unfold zG at h
 split at h
 ·rename_i p
  split at h
  ·rename_i k e m hl
   split at h
   ·rename_i kt et ht
    obtain⟨hk,h⟩:=cB h
    split at h
    ·rename_i a c ha hc
     cases h
     obtain⟨s,h1,rfl⟩:=hm.tH
     obtain⟨s',h2,h3⟩:=hi.ob _ _ hl
     rw[h1] at h2;cases h2
     have hw:=UG hR hk ha hx
     subst hw
     unfold Tt at hc
     obtain⟨hs,hc⟩:=cB hc
     have hu:u=aF R e c:=by
      have h4:=Nf hR hc hy
      have h5:=Io hR y u hs hy
      have h6:=h4.2.2.1 0 σ
      rw[ji h5] at h6
      exact Option.some.inj h6
     subst hu
     have hup:oz E.P σ t (.bB (ρ.om.lc p) s) (aF R k a) (aF R e c)=some (σ.setObj (ρ.om.lc p) s (.map ((vk (j4 R k) a c m).map fun q=>aF R k q.1) ((vk (j4 R k) a c m).map fun q=>aF R e q.2))):=by
      unfold oz
      rw[ht];simp only[Option.bind_some]
      rw[if_pos (Ig hR hk a a).2,h3]
      simp only[Option.bind_some]
      rw[UF hR hk a c m];rfl
     refine⟨aA,_,ρ,.gV (ho _ hup),(hi.le (Nat.le_succ _)).set p s ⟨s,h1,map_eq _ _ _ _ _⟩,rfl,by unfold Rl;rfl,fun q _=>aS.set hl rfl⟩
    ·cases h
   ·cases h
  ·rename_i ks vs hl
   split at h
   ·rename_i kt et ht
    obtain⟨hk,h⟩:=cB h
    split at h
    ·rename_i ks' vs' hs
     cases h
     obtain⟨s,h1,rfl⟩:=hm.tH
     obtain⟨s',k0,l0,h2,h3,h4,h5⟩:=hi.ob _ _ hl
     rw[h1] at h2;cases h2
     obtain⟨k1,l1,g1,g2,g3⟩:=Vk hx hy hs h4 h5
     have hup:oz E.P σ t (.bB (ρ.om.lc p) s) w u=some (σ.setObj (ρ.om.lc p) s (.map k1 l1)):=by
      unfold oz
      rw[ht];simp only[Option.bind_some]
      rw[if_pos (Vj hk hx),h3]
      simp only[Option.bind_some]
      rw[g1];rfl
     refine⟨aA,_,ρ,.gV (ho _ hup),(hi.le (Nat.le_succ _)).set p s ⟨s,k1,l1,h1,map_eq _ _ _ _ _,g2,g3⟩,rfl,by unfold Rl;rfl,fun q _=>aS.set hl rfl⟩
    ·cases h
   ·cases h
  ·cases h
 ·cases h
omit hR in
theorem aG.at (h:aG ρ b st fr σ) {d:Nat} (hd:d<F0):(fr.d,d)=ρ.om.lc d:=by rw[h.d,Cx.ado _ hd]
omit hR in
theorem aG.Vm (h:aG ρ b st fr σ) {x:Option Nat} (hd:∀d,x=some d→d<F0):(x.map fun t=>(fr.d,t))=x.map fun t=>ρ.om.lc t:=by
 cases x with
 |none=>rfl
 |some d=>exact congrArg some (h.at (hd d rfl))
theorem Vn {d s:Nat} {cs:List (TV R.T)} {l:List V} (hi:aG ρ b st fr σ) (hc:au R ρ σ.top cs l) (hm:kV d cs=false):aG (ρ.j5 d s) b (st.new d (.cells cs)) fr (σ.setObj (ρ.om.lc d) s (.cells l)):=
 hi.new d s ⟨s,l,qb,rC _ _ _ _,au.kill d Ab rfl rfl cs l hm hc⟩
theorem Vo {d s:Nat} {ss:List Sg} (hi:aG ρ b st fr σ):aG (ρ.j5 d s) b (st.new d (.sg ss)) fr (σ.setObj (ρ.om.lc d) s (.cells (bn ss))):=
 hi.new d s ⟨s,qb,rC _ _ _ _⟩
theorem N8 {g:Nat} {cs:List V} (h:E.glob g=some cs):fr.ev E (.global g)= .aI cs 0:=by
 show (match E.glob g with|some cs=>V.aI cs 0|none=>V.raw (Value.pointer (some ⟨g,0,none⟩)))=_
 rw[h]
theorem aeC {g:List (Nat×Bool)} (eu:∀d,o.dst=some d→d<F0) (hg:ny fr g) (hi:aG ρ aB st fr σ) {r:dh R} (h:nW E R g o.dst o.op st=some r):qc E st ρ aB fr σ o r:=by
 unfold nW at h
 split at h
 ·
  rename_i t hop
  split at h
  ·rename_i d ks cs hd hks hz
   obtain⟨hc,h⟩:=cB h
   cases h
   obtain⟨v,hv,hr⟩:=Af (ρ:=ρ) (top:=σ.top) hz
   obtain⟨l,rfl,hl⟩:=hr.jA
   have hl2:=aew hc hl
   refine⟨.ref (ρ.om.lc d) aB 0,_,ρ.j5 d aB,.gV (o:=o) ?_,Vo hR (ss:=ks.map Hl) (hi.le (Nat.le_succ _)),rfl,by unfold Rl;exact⟨aB,qb,rfl⟩,fun q hq=>aS.new (fun e=>hq (by rw[hd,e]))⟩
   simp only[aT,hop,hd,Option.map_some,Option.bind_some,hv,V.cells,hl2,Du,if_true,hi.at (eu _ hd)]
  ·cases h
 ·
  rename_i t x hop
  cases hz:E.qY t
  case true=>rw[hz] at h;cases h
  rw[hz,cond_false] at h
  split at h
  ·rename_i d ks v hd hks hv
   split at h
   ·rename_i ss hss
    cases h
    obtain⟨c1,c2,c3⟩:=Ve hss (aU (E:=E) hi hg hv)
    refine⟨.ref (ρ.om.lc d) aB 0,_,ρ.j5 d aB,.gV (o:=o) ?_,Vo hR (ss:=ss) (hi.le (Nat.le_succ _)),rfl,by unfold Rl;exact⟨aB,qb,rfl⟩,fun q hq=>aS.new (fun e=>hq (by rw[hd,e]))⟩
    simp only[aT,hop,hz,Bool.false_eq_true,if_false,hd,Option.map_some,Option.bind_some,c1,c3,Du,and_self,if_true,hi.at (eu _ hd)]
   ·cases h
  ·cases h
 ·
  rename_i t a hop
  split at h
  ·rename_i gl
   split at h
   ·rename_i k n v hv
    cases h
    obtain⟨cs,e,g1,g2,g3,g4,g5,g6⟩:=NZ hv
    refine .tt (y:=.agg (v.l.map (V.int k))) ?_ ?_
    ·simp only[aT,hop,N8 hR g1]
     unfold dD;rw[g4,g5];simp only[Option.bind_some]
     unfold lV
     rw[if_pos rfl,if_pos (by rw[g2,List.length_map,v.h];omega),List.drop_zero,List.take_of_length_le (by rw[g2,List.length_map,v.h];exact Nat.le_refl _),g2];rfl
    ·unfold Rl;show _=V.agg (v.l.map (V.int k)++[]);rw[List.append_nil]
   ·cases h
  ·split at h
   ·rename_i p off hv
    split at h
    ·rename_i ss hl
     split at h
     ·rename_i v hld
      cases h
      obtain⟨s,h1,h2⟩:=(aU (E:=E) hi hg hv).nk
      obtain⟨s',h3,h4⟩:=hi.rd hl
      rw[h1] at h3;cases h3
      obtain⟨y,hy,hr⟩:=Va (ρ:=ρ) (top:=σ.top) hld
      exact .tt (by simp only[aT,hop,h2,h4,Option.bind_some,hy,Option.map_some]) hr
     ·cases h
    ·cases h
   ·rename_i p off k n i m hv
    split at h
    ·rename_i ss hl
     obtain⟨s,h1,hi0,hi1,h2⟩:=(aU (E:=E) hi hg hv).Dh
     obtain⟨s',h3,h4⟩:=hi.rd hl
     rw[h1] at h3;cases h3
     split at h
     ·rename_i pre k' n' v post hsp
      by_cases ek:k'=k
      ·subst ek
       rw[if_pos rfl] at h
       cases hb:Nat.beq n' n
       ·rw[hb] at h;cases h
       rw[hb,cond_true] at h
       have:=dB hb;subst this
       cases hc:(Nat.beq m 1&& oW E t)
       ·rw[hc,cond_false] at h
        split at h
        ·rename_i y hy
         cases h
         obtain⟨x,g1,g2⟩:=aeu (ρ:=ρ) (top:=σ.top) hsp hi1 hy
         exact .tt (by simp only[aT,hop,h2,h4,Option.bind_some,g1,Option.map_some]) g2
        ·cases h
       ·rw[hc,cond_true] at h
        cases h
        rw[Bool.and_eq_true] at hc
        have:=dB hc.1;subst this
        exact .tt (y:=.int k' (v.at' i)) (by simp only[aT,hop,h2,h4,Option.bind_some,Vd (i:=i) hsp (Nat.lt_of_lt_of_le (Nat.lt_succ_self _) hi1) hc.2,Option.map_some]) (by unfold Rl;rfl)
      ·rw[if_neg ek] at h;cases h
     ·cases h
    ·cases h
   ·rename_i k n v i hv
    obtain⟨he,h⟩:=cB h
    cases h
    obtain⟨h1,h2,h3⟩:=(aU (E:=E) hi hg hv).HZ
    obtain⟨z1,z2⟩:=xH he
    refine .tt (y:=.int k (v.at' i)) ?_ (by unfold Rl;rfl)
    simp only[aT,hop,h3]
    unfold dD;rw[z1,z2];simp only[Option.bind_some]
    unfold lV;simp only[Bool.false_eq_true,if_false]
    rw[List.getElem?_map,Vb v (by omega)];rfl
   ·cases h
 ·
  rename_i t a x hop
  split at h
  ·rename_i p off v hv hx
   split at h
   ·rename_i ss sz hl hsz
    split at h
    ·rename_i pre rest hsp
     split at h
     ·rename_i mid post hsp2
      split at h
      ·rename_i mid' hco
       cases h
       obtain⟨s,h1,h2⟩:=(aU (E:=E) hi hg hv).nk
       obtain⟨s',h3,h4⟩:=hi.ob _ _ hl
       rw[h1] at h3;cases h3
       obtain⟨c1,c2,c3⟩:=Ve hco (aU (E:=E) hi hg hx)
       obtain⟨e1,w1⟩:=qP hsp
       obtain⟨e2,w2⟩:=qP hsp2
       rw[Iu,w2] at c2
       refine⟨aA,_,ρ,.gV (o:=o) ?_,(hi.le (Nat.le_succ _)).set p s (x:=.sg (pre++(mid'++post))) (a:=.cells (bn (pre++(mid'++post)))) ⟨s,h1,rC _ _ _ _⟩,rfl,by unfold Rl;rfl,fun q _=>aS.set hl rfl⟩
       simp only[aT,hop,h2,h4,Option.bind_some,c1]
       rw[if_pos ⟨by rw[hsz,fI,c2],by rw[fI,fI,e1,e2,vJ,vJ,w1,w2,c2];omega,Du _⟩,e1,e2,aex w1 w2 c2]
      ·cases h
     ·cases h
    ·cases h
   ·cases h
  ·rename_i p off k n i m k' y hv hx
   split at h
   ·rename_i ss hl
    split at h
    ·rename_i pre k2 n' v post hsp
     by_cases ek:k2=k
     ·subst ek
      rw[if_pos rfl] at h
      by_cases Vp:k'=k2
      ·subst Vp
       rw[if_pos rfl] at h
       obtain⟨hb,h⟩:=cB h
       cases h
       rw[Bool.and_eq_true,Bool.and_eq_true] at hb
       have e1:=dB hb.1.1;subst e1
       have e2:=dB hb.1.2;subst e2
       obtain⟨z1,z2⟩:=xH hb.2
       obtain⟨s,h1,hi0,hi1,h2⟩:=(aU (E:=E) hi hg hv).Dh
       obtain⟨s',h3,h4⟩:=hi.ob _ _ hl
       rw[h1] at h3;cases h3
       have hy:=(aU (E:=E) hi hg hx).fE
       obtain⟨e1,w1⟩:=qP hsp
       refine⟨aA,_,ρ,.gV (o:=o) ?_,(hi.le (Nat.le_succ _)).set p s (x:=.sg (pre++(.a k' n' (v.set i y)::post))) (a:=.cells (bn (pre++(.a k' n' (v.set i y)::post)))) ⟨s,h1,rC _ _ _ _⟩,rfl,by unfold Rl;rfl,fun q _=>aS.set hl rfl⟩
       simp only[aT,hop,h2,h4,Option.bind_some,hy,V.cells]
       have aeD:=Vf (post:=post) (k:=k') (v:=v) (w:=v.set i y) (l:=[y]) w1 (show i.toNat+[y].length≤n' from hi1) (aey (by rw[v.h];omega))
       rw[if_pos ⟨by rw[z1];rfl,by rw[fI,e1,vJ,w1,Ir];show off+i.toNat+1≤off+(n'+_);omega,rfl⟩,e1]
       rw[show [V.int k' y]=[y].map (V.int k') from rfl,aeD]
      ·rw[if_neg Vp] at h;cases h
     ·rw[if_neg ek] at h;cases h
    ·cases h
   ·cases h
  ·cases h
 ·
  rename_i t x i hop
  split at h
  ·rename_i n e k0 i ha hiv
   obtain⟨hel,h⟩:=cB h
   obtain⟨z1,z2⟩:=xH hel
   have hii:=(aU (E:=E) hi hg hiv).fE
   split at h
   ·rename_i gl
    split at h
    ·rename_i k n' v hv
     cases h
     intro hin
     obtain⟨cs,e',g1,g2,g3,g4,g5,g6⟩:=NZ hv
     rw[ha] at g3;cases g3
     obtain⟨j1,j2,j3⟩:=Iw hin
     refine⟨.aI cs i.toNat,.gV ?_,by unfold Rl;exact⟨j1,j2,by rw[g2]⟩⟩
     simp only[aT,hop,N8 hR g1,hii]
     unfold lG
     rw[Ip ha];dsimp only
     rw[z1];simp only[Option.bind_some,N7 hin,Option.map_some,Nat.mul_one,Nat.zero_add]
    ·cases h
   ·split at h
    ·rename_i p off hv
     split at h
     ·rename_i ss hl
      split at h
      ·rename_i pre k n' v post hsp
       obtain⟨hb,h⟩:=cB h
       have:=dB hb;subst this
       cases h
       intro hin
       obtain⟨s,h1,h2⟩:=(aU (E:=E) hi hg hv).nk
       obtain⟨j1,j2,j3⟩:=Iw hin
       refine⟨.ref (ρ.om.lc p) s (off+i.toNat),.gV ?_,by unfold Rl;exact⟨s,h1,j1,by omega,rfl⟩⟩
       simp only[aT,hop,h2,hii]
       unfold lG
       rw[Ip ha];dsimp only
       rw[z1];simp only[Option.bind_some,N7 hin,Option.map_some,Nat.mul_one]
      ·cases h
     ·cases h
    ·cases h
  ·cases h
 ·
  rename_i t x i hop
  split at h
  ·rename_i n e k n' v k0 i ha hv hiv
   obtain⟨hb,h⟩:=cB h
   cases h
   rw[Bool.and_eq_true] at hb
   have:=dB hb.2;subst this
   obtain⟨z1,z2⟩:=xH hb.1
   have hii:=(aU (E:=E) hi hg hiv).fE
   have hvv:=(aU (E:=E) hi hg hv).Df
   intro hin
   obtain⟨j1,j2,j3⟩:=Iw hin
   refine⟨.int k (v.at' i),.gV ?_,by unfold Rl;rfl⟩
   simp only[aT,hop,hvv,hii]
   unfold sJ
   rw[Ip ha];dsimp only
   rw[N7 hin];simp only[Option.bind_some,z1,Nat.mul_one]
   have:=Vd (E:=E) (t:=e) (ss:=[.a k n' v]) (pre:=[]) (post:=[]) (off:=0) (i:=i) rfl j3 hb.1
   rw[Nat.zero_add] at this
   rw[this];rfl
  ·cases h
 ·
  rename_i t x lo hi' hop
  split at h
  ·rename_i v hv
   have jV:=aU (E:=E) hi hg hv
   have ho:∀vl vh,gq E fr lo=vl→gq E fr hi'=vh→∀y,kE E.P σ t (fr.ev E x) vl vh none=some y→aT E fr σ aB o=some (y,σ):=by
    rintro vl vh rfl rfl y hy
    simp only[aT,hop]
    rw[show gq E fr none=none from rfl,hy];rfl
   split at h
   ·exact .val (Iz h jV hi (vl:=none) (vh:=none) (by intro y hy;cases hy) (fun _=>rfl) (by intro y hy;cases hy) (fun _=>rfl)) (ho _ _ rfl rfl)
   ·rename_i lo
    split at h
    ·rename_i l hl
     have hlr:=aU (E:=E) hi hg hl
     exact .val (Iz h jV hi (vl:=some (fr.ev E lo)) (vh:=none) (by intro y hy;cases hy;exact⟨_,rfl,hlr⟩) (by intro hy;cases hy) (by intro y hy;cases hy) (fun _=>rfl)) (ho _ _ rfl rfl)
    ·cases h
   ·rename_i hi'
    split at h
    ·rename_i l hl
     have hlr:=aU (E:=E) hi hg hl
     exact .val (Iz h jV hi (vl:=none) (vh:=some (fr.ev E hi')) (by intro y hy;cases hy) (fun _=>rfl) (by intro y hy;cases hy;exact⟨_,rfl,hlr⟩) (by intro hy;cases hy)) (ho _ _ rfl rfl)
    ·cases h
   ·rename_i lo hi'
    split at h
    ·rename_i l m hl hm
     have hlr:=aU (E:=E) hi hg hl
     have hmr:=aU (E:=E) hi hg hm
     exact .val (Iz h jV hi (vl:=some (fr.ev E lo)) (vh:=some (fr.ev E hi')) (by intro y hy;cases hy;exact⟨_,rfl,hlr⟩) (by intro hy;cases hy) (by intro y hy;cases hy;exact⟨_,rfl,hmr⟩) (by intro hy;cases hy)) (ho _ _ rfl rfl)
    ·cases h
  ·cases h
 ·
  rename_i t x lo hi' mx hop
  split at h
  ·rename_i cp u l kh hh IB km e hv hvh hvm hu
   split at h
   ·rename_i sz hsz
    cases hb:Nat.beq sz (bL R u)
    ·rw[hb] at h;cases h
    rw[hb,cond_true] at h
    have:=dB hb;subst this
    obtain⟨c',h2,_⟩:=(aU (E:=E) hi hg hv).jQ
    have eh:=(aU (E:=E) hi hg hvh).fE
    have em:=(aU (E:=E) hi hg hvm).fE
    have fin:∀(vl:Option V) (a:Nat) (L:List (Den R.T u)),gq E fr lo=vl→iY l.length l.length vl (some (.int kh hh)) (some (.int IB km))=some (a,hh.toNat,km.toNat)→(l.take hh.toNat).drop a=L→∃y,j6 E fr σ aB o y σ∧Rl R ρ σ.top (.aj .any u L) y:=by
     rintro vl a L hvl hsb rfl
     refine⟨.aj (if km.toNat=hh.toNat then .full else .sh) (((l.map (aF R u)).take hh.toNat).drop a),.gV ?_, ?_⟩
     ·simp only[aT,hop,h2]
      rw[hvl,show gq E fr (some hi')=some (.int kh hh) by rw[Dv,eh],show gq E fr (some mx)=some (.int IB km) by rw[Dv,em]]
      unfold kE
      rw[hu];dsimp only
      rw[hsz];simp only[Option.bind_some,List.length_map,hsb,Dn hR,if_true,Option.isNone_some,Bool.false_eq_true,and_false,if_false,Option.map_some]
     ·unfold Rl
      exact⟨_,by rw[Ny],trivial⟩
    split at h
    ·cases hf:TB E o.dst with
     |false=>
      rw[hf,cond_false] at h
      cases h
      intro hc
      rw[Bool.and_eq_true] at hc
      exact fin none 0 _ rfl (by simp[iY,o8 hc.1,o8 hc.2]) (by simp[nV])
     |true=>
      rw[hf,cond_true] at h
      cases h
      intro hc
      rw[Bool.and_eq_true,Bool.and_eq_true] at hc
      obtain⟨y,hy1,hy2⟩:=fin none 0 _ rfl (by simp[iY,o8 hc.1,o8 hc.2.1]) rfl
      have hkm:hh=km:=by simpa using hc.2.2
      subst hkm
      refine⟨.aj .full (((l.map (aF R u)).take hh.toNat).drop 0),.gV ?_, ?_⟩
      ·simp only[aT,hop,h2]
       rw[show gq E fr none=none from rfl,show gq E fr (some hi')=some (.int kh hh) by rw[Dv,eh],show gq E fr (some mx)=some (.int IB hh) by rw[Dv,em]]
       unfold kE
       rw[hu];dsimp only
       have hsb:iY l.length l.length none (some (.int kh hh)) (some (.int IB hh))=some (0,hh.toNat,hh.toNat):=by simp[iY,o8 hc.1,o8 hc.2.1]
       rw[hsz];simp only[Option.bind_some,List.length_map,hsb,Dn hR,if_true,Option.isNone_some,Bool.false_eq_true,and_false,if_false,Option.map_some]
      ·unfold Rl
       exact⟨.full,by rw[Ny];simp[nV],rfl⟩
    ·rename_i lo'
     split at h
     ·rename_i ka a hva
      cases h
      intro hc
      rw[Bool.and_eq_true,Bool.and_eq_true] at hc
      have ea:=(aU (E:=E) hi hg hva).fE
      exact fin (some (.int ka a)) a.toNat _ (by rw[Dv,ea]) (by simp[iY,o8 hc.1,o8 hc.2.1,o8 hc.2.2]) (by simp[nV])
     ·cases h
   ·cases h
  ·cases h
 ·
  rename_i a b' x hop
  split at h
  ·rename_i p off k n lo hi' hv
   obtain⟨s,h1,hB,h2⟩:=(aU (E:=E) hi hg hv).vF
   split at h
   ·rename_i e hu1 hu2
    split at h
    ·rename_i hu3
     split at h
     ·rename_i l hl
      cases h
      obtain⟨cs,c1,c2,c3,c4⟩:=U1 hR hi hl h1 hB
      obtain⟨p1,p2,p3,_,_⟩:=xG hB
      refine .tt (y:=.str (List.map (fun n:Int=>UInt8.ofNat n.toNat) l)) ?_ (by unfold Rl;rfl)
      simp only[aT,hop,h2]
      unfold sI
      rw[hu1,hu2];dsimp only
      rw[hu3,c1];dsimp only
      simp only[Option.bind_some]
      rw[if_pos (by omega),c3]
      have:=Nw (R:=R) l
      rw[show l.map (V.int .u8)=List.map (aF R (.int .u8)) l from rfl,this];rfl
     ·cases h
    ·cases h
   ·cases h
  ·cases h
 ·
  rename_i t x hop
  split at h
  ·rename_i m e p off k n lo hi' ha hv
   cases h
   intro hc
   have hc:=of_decide_eq_true hc
   obtain⟨s,h1,hB,h2⟩:=(aU (E:=E) hi hg hv).vF
   obtain⟨p1,p2,p3,p4,p5⟩:=xG hB
   refine⟨.ref (ρ.om.lc p) s (off+(bY lo).toNat),.gV ?_,by unfold Rl;exact⟨s,h1,p4,by omega,rfl⟩⟩
   simp only[aT,hop,ha,h2,Option.bind_some]
   rw[if_pos ⟨hc.1,by omega⟩]
  ·cases h
 ·
  rename_i c hop
  split at h
  ·rename_i p off k n lo hi' y fA hvs
   split at h
   ·rename_i t ht
    split at h
    ·rename_i e he
     obtain⟨hel,h⟩:=cB h
     obtain⟨z1,z2⟩:=xH hel
     split at h
     ·rename_i l0 ss hsrc hl
      obtain⟨l,hl0⟩:∃l:List Int,l=l0:=⟨l0,rfl⟩
      subst hl0
      split at h
      ·rename_i pre k' n' v post hsp
       by_cases ek:k'=k
       ·subst ek
        rw[if_pos rfl] at h
        cases hb:Nat.beq n' n
        ·rw[hb] at h;cases h
        rw[hb,cond_true] at h
        have:=dB hb;subst this
        cases h
        have hargs:=tK (E:=E) hi hg hvs
        obtain⟨a1,as1,ea1,ra1,ra2⟩:=hargs.dA
        obtain⟨a2,as2,ea2,rb1,rb2⟩:=ra2.dA
        have ea3:=rb2.eX
        subst ea3;subst ea2
        obtain⟨s,h1,hB,rfl⟩:=ra1.vF
        obtain⟨p1,p2,p3,p4,p5⟩:=xG hB
        obtain⟨s',h3,h4⟩:=hi.ob _ _ hl
        rw[h1] at h3;cases h3
        obtain⟨e1,w1⟩:=qP hsp
        obtain⟨q1,q2⟩:=NG hR (σ:=σ) (ag:=false) (z:=aA) hsrc rb1
        have q1:jo σ false 1 aA a2=some (List.map (V.int k') l):=q1
        have hlen:(fC n' hi'-bY lo).toNat=(fC n' hi').toNat-(bY lo).toNat:=by omega
        have hmin:min (List.map (V.int k') l).length ((fC n' hi').toNat-(bY lo).toNat)=(List.take (fC n' hi'-bY lo).toNat l).length:=by
         rw[List.length_map,List.length_take,hlen,Nat.min_comm]
        have hfl:((List.map (V.int k') l).take (List.take (fC n' hi'-bY lo).toNat l).length).flatMap V.cells=(List.take (fC n' hi'-bY lo).toNat l).map (V.int k'):=by
         have:∀m:List Int,(m.map (V.int k')).flatMap V.cells=m.map (V.int k'):=by
          intro m
          induction m with
          |nil=>rfl
          |cons x m ih=>rw[List.map_cons,List.flatMap_cons,ih];rfl
         rw[←List.map_take,this,List.length_take]
         congr 1
         by_cases hle:(fC n' hi'-bY lo).toNat≤List.length l
         ·rw[Nat.min_eq_left hle]
         ·rw[Nat.min_eq_right (by omega),List.take_of_length_le (Nat.le_refl _),List.take_of_length_le (by omega)]
        have hlt:(List.take (fC n' hi'-bY lo).toNat l).length≤(fC n' hi').toNat-(bY lo).toNat:=by rw[List.length_take,hlen];exact Nat.min_le_left _ _
        have hone:(List.map (V.int k') l).all (fun v=>aW v.cells)=true:=by rw[List.all_map];simp[aW,V.cells,oneCell]
        refine⟨_,_,ρ,.of (o:=o) fun S=> ?_,(hi.le (Nat.le_succ _)).set p s (x:=.sg (pre++(.a k' n' (v.pU (bY lo) (List.take (fC n' hi'-bY lo).toNat l))::post))) (a:=.cells (bn (pre++(.a k' n' (v.pU (bY lo) (List.take (fC n' hi'-bY lo).toNat l))::post)))) ⟨s,h1,rC _ _ _ _⟩,rfl,by unfold Rl;rfl,fun q _=>aS.set hl rfl⟩
        unfold opC
        rw[hop];dsimp only
        rw[fA];dsimp only
        rw[ea1]
        have hbv:lX E fr.om (o.dst.map fun t=>(fr.d,t)) σ aB .copy c.argTypes [.vw (ρ.om.lc p) s (off+(bY lo).toNat) ((fC n' hi').toNat-(bY lo).toNat) (n'-(bY lo).toNat) 1 false,a2]=(c.argTypes[0]?).bind fun t=>copyV E.P σ t (.vw (ρ.om.lc p) s (off+(bY lo).toNat) ((fC n' hi').toNat-(bY lo).toNat) (n'-(bY lo).toNat) 1 false) a2:=rfl
        rw[hbv,ht];simp only[Option.bind_some]
        rw[aeA he z1 z2 q2 q1 hone h4 (by rw[hmin,fI,e1,vJ,w1,Ir];show off+(bY lo).toNat+_≤off+(n'+_);omega),hmin,hfl]
        simp only[Option.map_some]
        rw[e1,Vf (w:=v.pU (bY lo) (List.take (fC n' hi'-bY lo).toNat l)) w1 (by omega) (by unfold Vec.pU;rw[Dt];simp only[List.length_append,List.length_take,List.length_drop,v.h] at*;omega)]
        try rfl
       ·rw[if_neg ek] at h;cases h
      ·cases h
     ·cases h
    ·cases h
   ·cases h
  ·cases h
 ·cases h
theorem aeN {om:Bool} {F:Nat→List (FR R)} (hF:bI E F) (aX:ρ.om.om=om) (eu:∀d,o.dst=some d→d<F0) {g:List (Nat×Bool)} (hg:ny fr g) (hi:aG ρ aB st fr σ) {r:dh R} (h:oZ E R om F g o.dst o.op st=some r):qc E st ρ aB fr σ o r:=by
 unfold oZ at h
 split at h
 ·
  rename_i x hop
  split at h
  ·rename_i v hv;cases h;exact .tt (y:=fr.ev E x) (by simp only[aT,hop]) (aU hi hg hv)
  ·cases h
 ·rename_i x hop
  split at h
  ·rename_i v hv;cases h;exact .tt (y:=fr.ev E x) (by simp only[aT,hop]) (aU hi hg hv)
  ·cases h
 ·
  rename_i c a' b' hop
  split at h
  ·rename_i j
   split at h
   ·rename_i t hc
    have hc':=(aU (E:=E) hi hg hc).o7
    split at h
    ·rename_i x y hx hy
     split at h
     ·rename_i v hv
      cases h
      refine .tt (Al hop hc') ?_
      rw[za] at hc'
      cases t
      ·exact Vh hv (aU (E:=E) hi (.cons hc' hg) hy)
      ·exact Vg hv (aU (E:=E) hi (.cons hc' hg) hx)
     ·cases h
    ·cases h
   ·rename_i t hc
    have hc':=(aU (E:=E) hi hg hc).qN
    split at h
    ·rename_i v hv
     cases h
     refine .tt (Al hop hc') ?_
     cases t
     ·exact aU (E:=E) hi hg hv
     ·exact aU (E:=E) hi hg hv
    ·cases h
   ·cases h
  ·cases h
 ·
  rename_i t hop
  split at h
  ·rename_i d z hd hz
   obtain⟨hc,h⟩:=cB h
   cases h
   simp only[Bool.and_eq_true,Bool.not_eq_true'] at hc
   obtain⟨v,hv,hr⟩:=Af (ρ:=ρ) (top:=σ.top) hz
   have hng:uZ z=true:=by
    cases z<;>first|rfl| (have:=hc.1;simp[TV.cells,uY,MB] at this)
   obtain⟨hcells,_⟩:=rO hng hr
   refine⟨.ref (ρ.om.lc d) aB 0,_,ρ.j5 d aB,.gV (o:=o) ?_,Vn hR (hi.le (Nat.le_succ _)) hcells hc.2,rfl,by unfold Rl;exact⟨aB,qb,rfl⟩,fun q hq=>aS.new (fun e=>hq (by rw[hd,e]))⟩
   simp only[aT,hop,hd,Option.map_some,Option.bind_some,hv,Dm hc.1 hcells,if_true,hi.at (eu _ hd)]
  ·cases h
 ·
  rename_i t x hop
  cases hz:E.qY t with
  |true=>
   rw[hz,cond_true] at h
   split at h
   ·rename_i v hv
    obtain⟨hc,h⟩:=cB h
    cases h
    rw[Bool.and_eq_true] at hc
    have hr:=aU (E:=E) hi hg hv
    obtain⟨hcells,hnr⟩:=rO hc.2 hr
    refine .tt (y:=.aI (fr.ev E x).cells 0) ?_ ?_
    ·simp only[aT,hop,hz,if_true,Io hR _ _ hc.1 hr,hnr,and_self]
    ·unfold Rl;exact⟨_,rfl,hcells⟩
   ·cases h
  |false=>
  rw[hz,cond_false] at h
  split at h
  ·rename_i d v hd hv
   obtain⟨hc,h⟩:=cB h
   cases h
   simp only[Bool.and_eq_true,Bool.not_eq_true'] at hc
   have hr:=aU (E:=E) hi hg hv
   obtain⟨hcells,hnr⟩:=rO hc.1.2 hr
   refine⟨.ref (ρ.om.lc d) aB 0,_,ρ.j5 d aB,.gV (o:=o) ?_,Vn hR (hi.le (Nat.le_succ _)) hcells hc.2,rfl,by unfold Rl;exact⟨aB,qb,rfl⟩,fun q hq=>aS.new (fun e=>hq (by rw[hd,e]))⟩
   simp only[aT,hop,hz,Bool.false_eq_true,if_false,hd,Option.map_some,Option.bind_some,Dm hc.1.1 hcells,hnr,and_self,if_true,hi.at (eu _ hd)]
  ·cases h
 ·
  rename_i t parts hop
  split at h
  ·rename_i pl z ps hpl hz hps
   split at h
   ·rename_i cs hcs
    cases h
    obtain⟨zv,hzv,NA⟩:=Af (ρ:=ρ) (top:=σ.top) hz
    obtain⟨e1,e2⟩:=Nj (E:=E) hi hg hps
    have hzc:au R ρ σ.top z.cells zv.cells:=by
     refine(rO ?_ NA).1
     unfold sW at hz
     cases z<;>first|rfl|skip
     all_goals
      exfalso
      split at hz
      ·split at hz
       ·unfold zn at hz
        split at hz
        ·split at hz<;>cases hz
        ·unfold wU at hz;split at hz<;>cases hz
       ·cases hz
      ·cases hz
    obtain⟨l',f1,f2⟩:=Uu (qs:=parts.toList.map fun p=>(p.1,fr.ev E p.2)) pl (by rw[e1];simp[Function.comp_def]) (by simpa [Function.comp_def] using e2) hzc hcs
    refine .tt (y:=.agg l') ?_ (by unfold Rl;exact⟨l',rfl,f2⟩)
    simp only[aT,hop,hpl,hzv,Option.bind_some]
    rw[f1];rfl
   ·cases h
  ·cases h
 ·
  rename_i t len parts hop
  split at h
  ·rename_i ps hps
   obtain⟨e1,e2⟩:=Nj (E:=E) hi hg hps
   refine .val (adX hR (qs:=parts.toList.map fun p=>(p.1,fr.ev E p.2)) h (by rw[e1];simp[Function.comp_def]) (by simpa [Function.comp_def] using e2)) fun y hy=> ?_
   simp only[aT,hop]
   rw[hy];rfl
  ·cases h
 ·
  rename_i t a hop
  split at h
  ·rename_i p off hv
   split at h
   ·rename_i cs hl
    split at h
    ·rename_i v hld
     cases h
     obtain⟨s,h1,h2⟩:=(aU (E:=E) hi hg hv).nk
     obtain⟨s',l,h3,h4,h5⟩:=hi.rd hl
     rw[h1] at h3;cases h3
     obtain⟨y,hy,hr⟩:=tQ h5 hld
     exact .tt (by simp only[aT,hop,h2,h4,Option.bind_some,hy,Option.map_some]) hr
    ·cases h
   ·cases h
  ·rename_i cs off hv
   split at h
   ·rename_i v hld
    cases h
    obtain⟨l,h2,h5⟩:=(aU (E:=E) hi hg hv).rM
    obtain⟨y,hy,hr⟩:=tQ h5 hld
    exact .tt (by simp only[aT,hop,h2,hy,Option.map_some]) hr
   ·cases h
  ·rename_i p τ i off hv
   split at h
   ·rename_i ob hl
    obtain⟨s,h1,_,h2⟩:=(aU (E:=E) hi hg hv).xA
    obtain⟨l,f,rfl,hf⟩:=ad6 h (hi.rd hl) h1
    intro y hy
    obtain⟨cs,w,h3,h4,h5⟩:=hf y hy
    exact⟨w,.gV (by simp only[aT,hop,h2,h3,Option.bind_some,h4,Option.map_some]),h5⟩
   ·cases h
  ·cases h
 ·
  rename_i t a x hop
  split at h
  ·rename_i p off v hv hx
   split at h
   ·rename_i cs sz hl hsz
    obtain⟨hc,h⟩:=cB h
    cases h
    simp only[Bool.and_eq_true] at hc
    obtain⟨⟨⟨c1,c2⟩,c3⟩,c4⟩:=hc
    obtain⟨s,h1,h2⟩:=(aU (E:=E) hi hg hv).nk
    obtain⟨s',l,h3,h4,h5⟩:=hi.ob _ _ hl
    rw[h1] at h3;cases h3
    obtain⟨h6,h7⟩:=rO c4 (aU (E:=E) hi hg hx)
    refine⟨aA,_,ρ,.gV (o:=o) ?_,(hi.le (Nat.le_succ _)).set p s ⟨s,_,h1,rC _ _ _ _,Nu off h5 h6⟩,rfl,by unfold Rl;rfl,fun q _=>aS.set hl rfl⟩
    simp only[aT,hop,h2,h4,Option.bind_some]
    rw[if_pos ⟨by rw[hsz,h6.length,dB c1],by rw[h6.length,h5.length];exact Nat.le_of_ble_eq_true c2,Dm c3 h6⟩]
   ·cases h
  ·cases h
 ·
  rename_i x hop
  split at h
  ·rename_i p off hv;cases h
   have hr:=aU (E:=E) hi hg hv
   obtain⟨s,h1,h2⟩:=hr.nk
   exact .tt (y:=fr.ev E x) (by simp only[aT,hop,h2]) hr
  ·rename_i p off hv;cases h
   have hr:=aU (E:=E) hi hg hv
   obtain⟨s,h2,h1⟩:=hr.rM
   exact .tt (y:=fr.ev E x) (by simp only[aT,hop,h2]) hr
  ·rename_i p τ i off hv;cases h
   have hr:=aU (E:=E) hi hg hv
   obtain⟨s,h1,_,h2⟩:=hr.xA
   exact .tt (y:=fr.ev E x) (by simp only[aT,hop,h2]) hr
  ·rename_i f a' b' hv;cases h
   have hr:=aU (E:=E) hi hg hv
   obtain⟨a',b',h2,h1⟩:=hr.mg
   exact .tt (y:=fr.ev E x) (by simp only[aT,hop,h2]) hr
  ·cases h
 ·
  rename_i op t x y t' hop
  split at h
  ·rename_i x' y' hx hy
   exact .val (adR h (aU (E:=E) hi hg hx) (aU (E:=E) hi hg hy)) fun z hz=>by simp only[aT,hop,hz,Option.map_some]
  ·cases h
 ·
  rename_i op t x hop
  split at h
  ·rename_i x' hx
   exact .val (adS h (aU (E:=E) hi hg hx)) fun z hz=>by simp only[aT,hop,hz,Option.map_some]
  ·cases h
 ·
  rename_i a' b' x hop
  split at h
  ·rename_i x' hx
   exact .val (adT (σ:=σ) h (aU (E:=E) hi hg hx)) fun z hz=>by simp only[aT,hop,hz,Option.map_some]
  ·cases h
 ·
  rename_i f a' b' hop
  split at h
  ·rename_i xs ys hx hy
   cases h
   exact .tt (y:=.fn (.func f) (a'.toList.map (fr.ev E)) (b'.toList.map (fr.ev E))) (by simp only[aT,hop]) (by unfold Rl;exact⟨_,_,rfl,tK (E:=E) hi hg hx,tK (E:=E) hi hg hy⟩)
  ·cases h
 ·
  rename_i t hop
  split at h
  ·rename_i d k e hd ht
   split at h
   ·rename_i k' e' hk he
    cases h
    refine⟨.bB (ρ.om.lc d) aB,_,ρ.j5 d aB,.gV (o:=o) ?_,(hi.le (Nat.le_succ _)).new d aB (a:=.map [] []) ⟨aB,qb,map_eq σ (ρ.om.lc d) aB [] []⟩,rfl,by unfold Rl;exact⟨aB,qb,rfl⟩,fun q hq=>aS.new (fun e=>hq (by rw[hd,e]))⟩
    simp only[aT,hop,hd,Option.map_some,hi.at (eu _ hd)]
   ·cases h
    refine⟨.bB (ρ.om.lc d) aB,_,ρ.j5 d aB,.gV (o:=o) ?_,(hi.le (Nat.le_succ _)).new d aB (a:=.map [] []) ⟨aB,[],[],qb,map_eq σ (ρ.om.lc d) aB [] [],rfl,rfl⟩,rfl,by unfold Rl;exact⟨aB,qb,rfl⟩,fun q hq=>aS.new (fun e=>hq (by rw[hd,e]))⟩
    simp only[aT,hop,hd,Option.map_some,hi.at (eu _ hd)]
  ·cases h
 ·
  rename_i t l c hop
  split at h
  ·rename_i n m hn hm
   refine aed hR h (aU (E:=E) hi hg hn) (aU (E:=E) hi hg hm) hi rfl fun y σ' hy=>.gV ?_
   have e:(o.dst.map fun t=>(fr.d,t))=o.dst.map fun t=>(ρ.om.lc t):=hi.Vm eu
   simp only[aT,hop]
   rw[e,hi.om,aX];exact hy
  ·cases h
 ·
  rename_i t x lo hi' hop
  split at h
  ·rename_i x' hx
   have jV:=aU (E:=E) hi hg hx
   split at h
   ·exact .val (Ie hR (σ:=σ) (vl:=none) (vh:=none) h jV (fun y hy=>by cases hy) (fun _=>rfl) (fun y hy=>by cases hy) (fun _=>rfl)) fun z hz=>by simp only[aT,hop,gq,hz,Option.map_some]
   ·rename_i lo
    split at h
    ·rename_i l hl
     exact .val (Ie hR (σ:=σ) (vl:=some (fr.ev E lo)) (vh:=none) h jV (fun y hy=>by cases hy;exact⟨_,rfl,aU (E:=E) hi hg hl⟩) (fun h=>by cases h) (fun y hy=>by cases hy) (fun _=>rfl)) fun z hz=>by simp only[aT,hop,gq,hz,Option.map_some]
    ·cases h
   ·rename_i hi2
    split at h
    ·rename_i l hl
     exact .val (Ie hR (σ:=σ) (vl:=none) (vh:=some (fr.ev E hi2)) h jV (fun y hy=>by cases hy) (fun _=>rfl) (fun y hy=>by cases hy;exact⟨_,rfl,aU (E:=E) hi hg hl⟩) (fun h=>by cases h)) fun z hz=>by simp only[aT,hop,gq,hz,Option.map_some]
    ·cases h
   ·rename_i lo hi2
    split at h
    ·rename_i l l2 hl hl2
     exact .val (Ie hR (σ:=σ) (vl:=some (fr.ev E lo)) (vh:=some (fr.ev E hi2)) h jV (fun y hy=>by cases hy;exact⟨_,rfl,aU (E:=E) hi hg hl⟩) (fun h=>by cases h) (fun y hy=>by cases hy;exact⟨_,rfl,aU (E:=E) hi hg hl2⟩) (fun h=>by cases h)) fun z hz=>by simp only[aT,hop,gq,hz,Option.map_some]
    ·cases h
  ·cases h
 ·
  rename_i t x f hop
  split at h
  ·rename_i x' hx
   have jV:=aU (E:=E) hi hg hx
   split at h
   ·rename_i v hv
    cases h
    unfold Tn at hv
    split at hv
    ·rename_i p u hf
     split at hv
     ·rename_i q off
      cases hv
      obtain⟨s,h1,h2⟩:=jV.nk
      exact .tt (y:=.ref (ρ.om.lc q) s (off+p)) (by simp only[aT,hop,hf,Option.bind_some,h2]) (by unfold Rl;exact⟨s,h1,rfl⟩)
     ·rename_i q off
      cases hv
      obtain⟨l,h2,h1⟩:=jV.rM
      exact .tt (y:=.aI l (off+p)) (by simp only[aT,hop,hf,Option.bind_some,h2]) (by unfold Rl;exact⟨l,rfl,h1⟩)
     ·rename_i q τ i off
      cases hv
      obtain⟨s,h1,h3,h2⟩:=jV.xA
      exact .tt (y:=.ref (ρ.om.lc q) s (i.toNat*bL R τ+off+p)) (by simp only[aT,hop,hf,Option.bind_some,h2]) (by unfold Rl;exact⟨s,h1,h3,by rw[Nat.add_assoc]⟩)
     ·cases hv
    ·cases hv
   ·cases h
  ·cases h
 ·
  rename_i t x f hop
  split at h
  ·rename_i p u cs hf hx
   split at h
   ·rename_i v hv
    cases h
    obtain⟨l,h1,h2⟩:=(aU (E:=E) hi hg hx).jA
    obtain⟨y,hy,hr⟩:=tQ h2 hv
    exact .tt (by simp only[aT,hop,hf,Option.bind_some,h1,hy,Option.map_some]) hr
   ·cases h
  ·cases h
 ·
  rename_i t x i hop
  split at h
  ·rename_i p τ y' hx hy
   exact .val (aee hR (om:=false) h (aU (E:=E) hi hg hx) (aU (E:=E) hi hg hy) hi) fun z hz=>by simp only[aT,hop,hz,Option.map_some]
  ·rename_i x' y' _ hx hy
   exact .val (aeo hR h (aU (E:=E) hi hg hx) (aU (E:=E) hi hg hy)) fun z hz=>by simp only[aT,hop,hz,Option.map_some]
  ·cases h
 ·
  rename_i t x i hop
  split at h
  ·rename_i x' y' hx hy
   exact .val (aep h (aU (E:=E) hi hg hx) (aU (E:=E) hi hg hy)) fun z hz=>by simp only[aT,hop,hz,Option.map_some]
  ·cases h
 ·
  rename_i t x i ok hop
  split at h
  ·rename_i x' y' hx hy
   exact .val (aeB hR h (aU (E:=E) hi hg hx) (aU (E:=E) hi hg hy) hi) fun z hz=>by simp only[aT,hop,hz,Option.map_some]
  ·cases h
 ·
  rename_i t m k v hop
  split at h
  ·rename_i m' k' v' hm hk hv
   exact Vl hR h (aU (E:=E) hi hg hm) (aU (E:=E) hi hg hk) (aU (E:=E) hi hg hv) hi fun σ' hs=>by simp only[aT,hop,hs,Option.map_some]
  ·cases h
 ·rename_i t m k v hop
  split at h
  ·rename_i m' k' v' hm hk hv
   exact Vl hR h (aU (E:=E) hi hg hm) (aU (E:=E) hi hg hk) (aU (E:=E) hi hg hv) hi fun σ' hs=>by simp only[aT,hop,hs,Option.map_some]
  ·cases h
 ·
  rename_i x i hop
  split at h
  ·rename_i vs hv
   split at h
   ·rename_i v hx
    cases h
    obtain⟨l,h1,h2⟩:=(aU (E:=E) hi hg hv).HY
    obtain⟨y,hy,hr⟩:=h2.get hx
    exact .tt (by simp only[aT,hop,h1,hy,Option.map_some]) hr
   ·cases h
  ·cases h
 ·
  rename_i c hop
  split at h
  ·rename_i bi fA
   split at h
   ·rename_i vs hvs
    have hrs:=tK (E:=E) hi hg hvs
    have step:∀y σ',lX E fr.om (o.dst.map fun t=>(fr.d,t)) σ aB bi c.argTypes (c.args.toList.map (fr.ev E))=some (y,σ')→j6 E fr σ aB o y σ':=fun y σ' hb=>.of fun S=>by
     simp only[opC,hop,fA,hb,Option.map_some]
    unfold blt at h
    split at h
    ·rename_i x
     split at h
     ·rename_i t ht
      split at h
      ·rename_i n hn
       cases h
       obtain⟨v,l,e,h1,h2⟩:=hrs.dA
       rw[h2.eX] at e
       refine⟨_,step _ σ ?_,by unfold Rl;rfl⟩
       rw[e]
       simp only[lX,ht,Option.bind_some,ad1 hn h1 hi,Option.map_some]
      ·cases h
     ·cases h
    ·rename_i x y
     split at h
     ·rename_i t u ht hu
      obtain⟨v,l,e,h1,h2⟩:=hrs.dA
      obtain⟨w,l',e',h3,h4⟩:=h2.dA
      subst e'
      rw[h4.eX] at e
      have e0:(o.dst.map fun t=>(fr.d,t))=o.dst.map fun t=>(ρ.om.lc t):=hi.Vm eu
      have fin:zI E u=true→∀z σ',gH E.P om false σ aB (o.dst.map fun t=>(ρ.om.lc t)) t v w=some (z,σ')→j6 E fr σ aB o z σ':=fun hss z σ' hz=>step z σ' (by
       rw[e,e0]
       unfold zI at hss
       simp only[lX,ht,hu,Option.bind_some,hi.om,aX]
       split at hss
       ·rename_i hu';rw[hu'];simp only[hz,Option.bind_some]
       ·rename_i hu';rw[hu'];simp only[hz,Option.bind_some]
       ·cases hss)
      cases Dw:om
      ·rw[Dw] at h fin
       have h':CY E R o.dst t u x y st=some r:=h
       have hss:zI E u=true:=by
        unfold CY at h'
        split at h'
        ·split at h'
         ·exact(cB h').1
         ·cases h'
        ·cases h'
       exact adZ hR (loc:=o.dst.map fun t=>(ρ.om.lc t)) h' h1 h3 hi (fin hss)
      ·rw[Dw] at h fin
       have h':CZ E R o.dst t u x y st=some r:=h
       have hss:zI E u=true:=by
        unfold CZ at h'
        split at h'
        ·split at h'
         ·exact(cB h').1
         ·cases h'
        ·cases h'
       exact aec hR h' h1 h3 hi rfl (fin hss)
     ·cases h
    ·rename_i x l
     split at h
     ·rename_i v hv
      cases h
      obtain⟨y,ys,e,h1,h2⟩:=hrs.dA
      obtain⟨w,hw,hr⟩:=NH false hv h1 h2
      refine⟨w,step w σ ?_,hr⟩
      rw[e]
      simp only[lX,hw,Option.map_some]
     ·cases h
    ·rename_i x l
     split at h
     ·rename_i v hv
      cases h
      obtain⟨y,ys,e,h1,h2⟩:=hrs.dA
      obtain⟨w,hw,hr⟩:=NH true hv h1 h2
      refine⟨w,step w σ ?_,hr⟩
      rw[e]
      simp only[lX,hw,Option.map_some]
     ·cases h
    ·cases h
   ·cases h
  ·rename_i f fA
   split at h
   ·rename_i f' a' b' vs hf hvs
    cases himp:E.imp f' with
    |true=>rw[himp] at h;cases h
    |false=>
     rw[himp,cond_false] at h
     obtain⟨va,vb,h1,h2,h3⟩:=(aU (E:=E) hi hg hf).mg
     exact U8 hR hF hop fA h1 himp ((h2.append (tK (E:=E) hi hg hvs)).append h3) hi (fun _ hx=>hx) h
   ·cases h
  ·cases h
 ·cases h
theorem rP {om:Bool} {F:Nat→List (FR R)} (hF:bI E F) (aX:ρ.om.om=om) (eu:∀d,o.dst=some d→d<F0) {g:List (Nat×Bool)} (hg:ny fr g) (hi:aG ρ aB st fr σ) {r:dh R} (h:rG E R om F g o.dst o.op st=some r):qc E st ρ aB fr σ o r:=by
 unfold rG at h
 split at h
 ·rename_i r' hx;cases h;exact aeC hR eu hg hi hx
 ·exact aeN hR hF aX eu hg hi h
end
end Aq
end
section
namespace Aq
open Go
set_option linter.unusedSectionVars false
set_option linter.unusedVariables false
section
variable {R:gy} {E:Env} {ρ ρ':aK} {b aB:Nat} {st:MS R.T} {fr:Fr} {σ:ah} {o:Oper} (hR:l9 R)
include hR
def aeP (E:Env) (g:Nat) (r:FM R):Prop:=∀p q y q',r.F p q=some (y,q')→∀(ρ:aK) (vs:List V) (σ:ah),ρ.om.om=E.om g→(∀t,ρ.tk t=none)→ρ.om.lo≤σ.next→
 au R ρ σ.top (iC R .any r.args p) vs→(∀o x,look (jO R r.obs q) o=some x→dL ρ σ o x)→
 kJ E g vs ρ.om.dp σ fun v σ'=>v=kZ (bf R r.res y)∧(∀o x,look (jO R r.obs q') o=some x→dL ρ σ' o x)∧σ.next≤σ'.next∧(∀l,l<σ.next→σ'.loops l=σ.loops l)∧(∀s,s<ρ.om.lo→σ'.top s=σ.top s)∧
  ∀L:Loc,L.1≤ρ.om.dp→ρ.om.out L→σ'.obj L=σ.obj L
def IC (E:Env) (M:Nat→List (FM R)):Prop:=∀g,∀r∈M g,E.imp g=true∧aeP E g r
omit hR in
theorem Vq {i:Nat}:∀{l:List Nat},aO i l=true→i∈l
 | [],h=>by cases h
 |j::l,h=>by
  have h':(Nat.beq i j||aO i l)=true:=h
  rw[Bool.or_eq_true] at h'
  rcases h' with h'|h'
  ·rw[dB h'];exact List.mem_cons_self ..
  ·exact List.mem_cons_of_mem _ (Vq h')
omit hR in
theorem N9 {i:Nat}:∀{l:List Nat},i∈l→aO i l=true
 | [],h=>by cases h
 |j::l,h=>by
  show (Nat.beq i j||aO i l)=true
  rw[Bool.or_eq_true]
  rcases List.mem_cons.1 h with h|h
  ·left;rw[h];exact Nat.beq_refl _
  ·right;exact N9 h
omit hR in
theorem Vr:∀{l:List Nat} {n o p:Nat},look (jy l n) o=some p→n≤p∧l[p-n]? =some o
 | [],_,_,_,h=>by cases h
 |a::l,n,o,p,h=>by
  have h':look ((a,n)::jy l (n+1)) o=some p:=h
  by_cases e:o=a
  ·subst e;rw[iK] at h';cases h';exact⟨Nat.le_refl _,by simp⟩
  ·rw[fH _ _ e] at h'
   obtain⟨h1,h2⟩:=Vr h'
   refine⟨by omega, ?_⟩
   have:p-n=(p-(n+1))+1:=by omega
   rw[this];simpa using h2
omit hR in
theorem Vs:∀{l:List Nat},xg l=true→∀{i j o:Nat},l[i]? =some o→l[j]? =some o→i=j
 | [],_,i,j,o,hi,_=>by simp at hi
 |a::l,h,i,j,o,hi,hj=>by
  have h':(!(aO a l)&& xg l)=true:=h
  rw[Bool.and_eq_true,Bool.not_eq_true'] at h'
  cases i with
  |zero=>
   cases j with
   |zero=>rfl
   |succ j=>
    have e:a=o:=by simpa using hi
    have e2:l[j]? =some o:=by simpa using hj
    rw[e,N9 (List.mem_of_getElem? e2)] at h'
    exact absurd h'.1 (by simp)
  |succ i=>
   cases j with
   |zero=>
    have e:a=o:=by simpa using hj
    have e2:l[i]? =some o:=by simpa using hi
    rw[e,N9 (List.mem_of_getElem? e2)] at h'
    exact absurd h'.1 (by simp)
   |succ j=>rw[Vs h'.2 (show l[i]? =some o by simpa using hi) (show l[j]? =some o by simpa using hj)]
omit hR in
theorem Oa:∀{l:List Nat} {n p:Nat} {x:Ob R.T},look (zQ st (jy l n)) p=some x→∃o,n≤p∧l[p-n]? =some o∧look st.ob o=some x
 | [],_,_,_,h=>by cases h
 |a::l,n,p,x,h=>by
  have up:look (zQ st (jy l (n+1))) p=some x→∃o,n≤p∧(a::l)[p-n]? =some o∧look st.ob o=some x:=fun h=>by
   obtain⟨o,h1,h2,h3⟩:=Oa h
   refine⟨o,by omega, ?_,h3⟩
   have:p-n=(p-(n+1))+1:=by omega
   rw[this];simpa using h2
  have h':=h
  unfold jy zQ at h'
  split at h'
  ·rename_i y hy
   by_cases e:p=n
   ·subst e;rw[iK] at h';cases h';exact⟨a,Nat.le_refl _,by simp,hy⟩
   ·rw[fH _ _ e] at h';exact up h'
  ·exact up h'
omit hR in
theorem Oc {L:List (Nat×Ob R.T)}:∀{l:List Nat} {n o:Nat} {y:Ob R.T},look (pX (jy l n) L) o=some y→∃p,n≤p∧l[p-n]? =some o∧look L p=some y
 | [],_,_,_,h=>by cases h
 |a::l,n,o,y,h=>by
  have up:look (pX (jy l (n+1)) L) o=some y→∃p,n≤p∧(a::l)[p-n]? =some o∧look L p=some y:=fun h=>by
   obtain⟨p,h1,h2,h3⟩:=Oc h
   refine⟨p,by omega, ?_,h3⟩
   have:p-n=(p-(n+1))+1:=by omega
   rw[this];simpa using h2
  have h':=h
  unfold jy pX at h'
  split at h'
  ·rename_i z hz
   by_cases e:o=a
   ·subst e;rw[iK] at h';cases h';exact⟨n,Nat.le_refl _,by simp,hz⟩
   ·rw[fH _ _ e] at h';exact up h'
  ·exact up h'
omit hR in
theorem Vt {L:List (Nat×Ob R.T)}:∀{l:List Nat} {n o:Nat},(∀p,n≤p→p<n+l.length→∃y,look L p=some y)→look (pX (jy l n) L) o=none→o∉l
 | [],_,_,_,_=>by simp
 |a::l,n,o,hL,h=>by
  obtain⟨y,hy⟩:=hL n (Nat.le_refl _) (by simp)
  have h':=h
  unfold jy pX at h'
  rw[hy] at h'
  by_cases e:o=a
  ·subst e;rw[iK] at h';cases h'
  ·rw[fH _ _ e] at h'
   have:=Vt (fun p h1 h2=>hL p (by omega) (by rw[List.length_cons];omega)) h'
   simp[e,this]
omit hR in
theorem IE:∀{l:List Nat} {n:Nat} {obs:List (Nat×jF)} {q:mV R.T obs},zR (jy l n) obs=true→∀p,n≤p→p<n+l.length→∃y,look (jO R obs q) p=some y
 | [],n,_,_,_,p,h1,h2=>by simp at h2;omega
 |a::l,n,[],_,h,_,_,_=>by cases h
 |a::l,n,[(j,k)],q,h,p,h1,h2=>by
  have h':(Nat.beq n j&& zR (jy l (n+1)) [])=true:=h
  rw[Bool.and_eq_true] at h'
  have hj:=dB h'.1
  subst hj
  by_cases e:p=n
  ·subst e;exact⟨_,iK _ _ _⟩
  ·obtain⟨y,hy⟩:=IE (q:=show mV R.T [] from ()) h'.2 p (by omega) (by rw[List.length_cons] at h2;omega)
   cases hy
 |a::l,n,(j,k)::x::obs,q,h,p,h1,h2=>by
  have h':(Nat.beq n j&& zR (jy l (n+1)) (x::obs))=true:=h
  rw[Bool.and_eq_true] at h'
  have hj:=dB h'.1
  subst hj
  show∃y,look ((n,jN R k q.1)::jO R (x::obs) q.2) p=some y
  by_cases e:p=n
  ·subst e;exact⟨_,iK _ _ _⟩
  ·rw[fH _ _ e]
   exact IE h'.2 p (by omega) (by rw[List.length_cons] at h2;omega)
omit hR in
theorem Od {L:List (Nat×Ob R.T)}:∀(l:List (Nat×jF)) (x:mV R.T l),lg R L l=some x→∀i v,look (jO R l x) i=some v→∃k y z,look L i=some y∧u7 R k y=some z∧v=jN R k z∧(rH l=true→okO k=true)
 | [],x,hx,i,v,hv=>by cases hv
 | [(j,k)],x,hx,i,v,hv=>by
   unfold lg at hx
   split at hx
   ·rename_i y hy
    by_cases e:i=j
    ·subst e
     have hv':look [(i,jN R k x)] i=some v:=hv
     rw[iK] at hv';cases hv'
     exact⟨k,y,x,hy,hx,rfl,fun h=>by unfold rH at h;rw[Bool.and_eq_true] at h;exact h.1⟩
    ·have hv':look [(j,jN R k x)] i=some v:=hv
     rw[fH _ _ e] at hv';cases hv'
   ·cases hx
 | (j,k)::q::l,x,hx,i,v,hv=>by
   unfold lg at hx
   split at hx
   ·rename_i y hy
    cases hu:u7 R k y with
    |none=>simp only[hu] at hx;cases hx
    |some z=>
     cases hs:lg R L (q::l) with
     |none=>simp only[hu,hs] at hx;cases hx
     |some p=>
      simp only[hu,hs] at hx
      obtain rfl:=Option.some.inj hx
      have hv':look ((j,jN R k z)::jO R (q::l) p) i=some v:=hv
      by_cases e:i=j
      ·subst e
       rw[iK] at hv';cases hv'
       exact⟨k,y,z,hy,hu,rfl,fun h=>by unfold rH at h;rw[Bool.and_eq_true] at h;exact h.1⟩
      ·rw[fH _ _ e] at hv'
       obtain⟨k',y',z',h1,h2,h3,h4⟩:=Od (q::l) p hs i v hv'
       exact⟨k',y',z',h1,h2,h3,fun h=>h4 (by unfold rH at h;rw[Bool.and_eq_true] at h;exact h.2)⟩
   ·cases hx
omit hR in
theorem Vu:∀{l:List (Nat×jF)} {x:mV R.T l},rH l=true→∀{i:Nat} {v:Ob R.T},look (jO R l x) i=some v→∃k z,okO k=true∧v=jN R k z
 | [],x,_,i,v,hv=>by cases hv
 | [(j,k)],x,h,i,v,hv=>by
   unfold rH at h;rw[Bool.and_eq_true] at h
   have hv':look [(j,jN R k x)] i=some v:=hv
   by_cases e:i=j
   ·subst e;rw[iK] at hv';cases hv';exact⟨k,x,h.1,rfl⟩
   ·rw[fH _ _ e] at hv';cases hv'
 | (j,k)::q::l,x,h,i,v,hv=>by
   unfold rH at h;rw[Bool.and_eq_true] at h
   have hv':look ((j,jN R k x.1)::jO R (q::l) x.2) i=some v:=hv
   by_cases e:i=j
   ·subst e;rw[iK] at hv';cases hv';exact⟨k,x.1,h.1,rfl⟩
   ·rw[fH _ _ e] at hv';exact Vu h.2 hv'
omit hR in
theorem Vv {top top':Nat→Nat} {t:Ty} {x:Den R.T t} {v:V} (h:Rl R ρ top (eU R .any t x) v):Rl R ρ' top' (eU R .any t x) v:=by
 cases t with
 |st n=>obtain⟨l,hv,hl⟩:=Rl.jA (R:=R) h;exact⟨l,hv,vG _ _ _ hl⟩
 |int k=>exact h
 |bool=>exact h
 |str=>exact h
 |slice t=>exact h
omit hR in
theorem Vw {top top':Nat→Nat}:∀{l:List Sk} {z:aH R.T l} {cs:List V},M4 l=true→au R ρ top (iC R .any l z) cs→au R ρ' top' (iC R .any l z) cs
 | [],_,_,_,h=>h
 | [k],z,cs,hd,h=>by
   cases k<;>first| (cases hd;done)|skip
   rename_i t
   obtain⟨v,ws,rfl,h1,h2⟩:=au.dA (ts:=[]) (show au R ρ top [eU R .any t z] cs from h)
   rw[h2.eX]
   exact .cons' (Vv h1) rfl
 |k::q::l,z,cs,hd,h=>by
  cases k<;>first| (cases hd;done)|skip
  rename_i t
  obtain⟨v,ws,rfl,h1,h2⟩:=au.dA (show au R ρ top (eU R .any t z.1::iC R .any (q::l) z.2) cs from h)
  exact .cons' (Vv h1) (Vw (l:=q::l) hd h2)
omit hR in
theorem Vx {o p:Nat} {k:jF} {z:uV R.T k} (hk:okO k=true) (hb:ρ'.ob p=ρ.ob o) (hn:ρ'.ln p=ρ.ln o) (hl:ρ'.om.lc p=ρ.om.lc o) (h:dL ρ σ o (jN R k z)):dL ρ' σ p (jN R k z):=by
 cases k with
 |cells l=>obtain⟨s,cs,h1,h2,h3⟩:=h;exact⟨s,cs,by rw[hb];exact h1,by rw[hl];exact h2,Vw hk h3⟩
 |st n=>obtain⟨s,cs,h1,h2,h3⟩:=h;exact⟨s,cs,by rw[hb];exact h1,by rw[hl];exact h2,vG _ _ _ h3⟩
 |map k e=>obtain⟨s,h1,h2⟩:=h;exact⟨s,by rw[hb];exact h1,by rw[hl];exact h2⟩
 |arr t=>
  refine⟨h.1.trans hn.symm, ?_⟩
  rcases h.2 with h| ⟨s,cs,h1,h2,h3⟩
  ·exact .inl ⟨h.1,by rw[hb];exact h.2⟩
  ·exact .inr ⟨s,cs,by rw[hb];exact h1,by rw[hl];exact h2,tJ _ cs h3⟩
 |sg l=>obtain⟨s,h1,h2⟩:=h;exact⟨s,by rw[hb];exact h1,by rw[hl];exact h2⟩
omit hR in
mutual
theorem Rl.ren {top:Nat→Nat} {m:List (Nat×Nat)} (hm:∀o p,look m o=some p→ρ'.om.lc p=ρ.om.lc o∧ρ'.ob p=ρ.ob o∧ρ'.ln p=ρ.ln o):∀(x:TV R.T) (v:V),Rl R ρ top x v→Rl R ρ' top (tu m x) v
 |.ref o off,v,h=>by
  obtain⟨s,h1,h2⟩:=h
  unfold tu
  split
  ·rename_i p hp;obtain⟨a,b,c⟩:=hm _ _ hp;exact⟨s,by rw[b];exact h1,by rw[a];exact h2⟩
  ·unfold Rl;trivial
 |.bB o,v,h=>by
  obtain⟨s,h1,h2⟩:=h
  unfold tu
  split
  ·rename_i p hp;obtain⟨a,b,c⟩:=hm _ _ hp;exact⟨s,by rw[b];exact h1,by rw[a];exact h2⟩
  ·unfold Rl;trivial
 |.vw o t,v,h=>by
  unfold tu
  split
  ·rename_i p hp
   obtain⟨a,b,c⟩:=hm _ _ hp
   rcases h with ⟨s,h1,h2⟩| ⟨h1,h2⟩
   ·exact .inl ⟨s,by rw[b];exact h1,by rw[a,c];exact h2⟩
   ·exact .inr ⟨by rw[c];exact h1,h2⟩
  ·unfold Rl;trivial
 |.jk o t i off,v,h=>by
  obtain⟨s,h1,h2⟩:=h
  unfold tu
  split
  ·rename_i p hp;obtain⟨a,b,c⟩:=hm _ _ hp;exact⟨s,by rw[b];exact h1,by rw[a];exact h2⟩
  ·unfold Rl;trivial
 |.sv o _ _ _ _ _,v,h=>by
  obtain⟨s,h1,h2⟩:=h
  unfold tu
  split
  ·rename_i p hp;obtain⟨a,b,c⟩:=hm _ _ hp;exact⟨s,by rw[b];exact h1,by rw[a];exact h2⟩
  ·unfold Rl;trivial
 |.sel o _ _ _ _ _,v,h=>by
  obtain⟨s,h1,h2⟩:=h
  unfold tu
  split
  ·rename_i p hp;obtain⟨a,b,c⟩:=hm _ _ hp;exact⟨s,by rw[b];exact h1,by rw[a];exact h2⟩
  ·unfold Rl;trivial
 |.aj c t l,v,h=>by
  obtain⟨c',hv,hc⟩:=h
  unfold tu
  cases c with
  |own u=>exact⟨c',hv,trivial⟩
  |any=>exact⟨c',hv,trivial⟩
  |sh=>exact⟨c',hv,hc⟩
  |nil=>exact⟨c',hv,hc⟩
  |full=>exact⟨c',hv,hc⟩
 |.agg cs,v,h=>by obtain⟨l,hv,hl⟩:=h;exact⟨l,hv,au.ren hm cs l hl⟩
 |.aZ cs,v,h=>by obtain⟨l,hv,hl⟩:=h;exact⟨l,hv,au.ren hm cs l hl⟩
 |.aI cs off,v,h=>by obtain⟨l,hv,hl⟩:=h;exact⟨l,hv,au.ren hm cs l hl⟩
 |.fn f a b,v,h=>by obtain⟨a',b',hv,ha,hb⟩:=h;exact⟨a',b',hv,au.ren hm a a' ha,au.ren hm b b' hb⟩
 |.opt _ _ _,_,h=>h.elim
 |.int _ _,_,h=>h
 |.bool _,_,h=>h
 |.fO _,_,h=>h
 |.str _,_,h=>h
 |.eH,_,h=>h
 |.dY,_,h=>h
 |.dQ,_,h=>h
 |.fG,_,h=>h
 |.d9,_,h=>h
 |.bR _ _ _,_,h=>h
 |.undef,_,h=>h
 |.sg _,_,h=>h
 |.oN _ _ _ _,_,h=>h
 |.gone,_,h=>h
theorem au.ren {top:Nat→Nat} {m:List (Nat×Nat)} (hm:∀o p,look m o=some p→ρ'.om.lc p=ρ.om.lc o∧ρ'.ob p=ρ.ob o∧ρ'.ln p=ρ.ln o):∀(x:List (TV R.T)) (v:List V),au R ρ top x v→au R ρ' top (vD m x) v
 | [],_,h=>h
 |x::xs,_,⟨v,vs,e,h1,h2⟩=>⟨v,vs,e,Rl.ren hm x v h1,au.ren hm xs vs h2⟩
end
omit hR in
mutual
theorem Rl.top {ρ:aK} {t t':Nat→Nat} (ht:∀u s,ρ.tk u=some s→t' s=t s):∀(x:TV R.T) (v:V),Rl R ρ t x v→Rl R ρ t' x v
 |.aj c ty l,v,h=>by
  obtain⟨c',hv,hc⟩:=h
  refine⟨c',hv, ?_⟩
  cases c<;>first|exact hc|skip
  rcases hc with hc|hc| ⟨s,h1,h2,h3⟩
  ·exact .inl hc
  ·exact .inr (.inl hc)
  ·exact .inr (.inr ⟨s,h1,h2,(ht _ _ h2).trans h3⟩)
 |.agg cs,v,h=>by obtain⟨l,hv,hl⟩:=h;exact⟨l,hv,au.top ht cs l hl⟩
 |.aZ cs,v,h=>by obtain⟨l,hv,hl⟩:=h;exact⟨l,hv,au.top ht cs l hl⟩
 |.aI cs off,v,h=>by obtain⟨l,hv,hl⟩:=h;exact⟨l,hv,au.top ht cs l hl⟩
 |.fn f a b,v,h=>by obtain⟨a',b',hv,ha,hb⟩:=h;exact⟨a',b',hv,au.top ht a a' ha,au.top ht b b' hb⟩
 |.ref _ _,_,h=>h
 |.bB _,_,h=>h
 |.vw _ _,_,h=>h
 |.jk _ _ _ _,_,h=>h
 |.opt _ _ _,_,h=>h.elim
 |.int _ _,_,h=>h
 |.bool _,_,h=>h
 |.fO _,_,h=>h
 |.str _,_,h=>h
 |.eH,_,h=>h
 |.dY,_,h=>h
 |.dQ,_,h=>h
 |.fG,_,h=>h
 |.d9,_,h=>h
 |.bR _ _ _,_,h=>h
 |.undef,_,h=>h
 |.sg _,_,h=>h
 |.sv _ _ _ _ _ _,_,h=>h
 |.sel _ _ _ _ _ _,_,h=>h
 |.oN _ _ _ _,_,h=>h
 |.gone,_,h=>h
theorem au.top {ρ:aK} {t t':Nat→Nat} (ht:∀u s,ρ.tk u=some s→t' s=t s):∀(x:List (TV R.T)) (v:List V),au R ρ t x v→au R ρ t' x v
 | [],_,h=>h
 |x::xs,_,⟨v,vs,e,h1,h2⟩=>⟨v,vs,e,Rl.top ht x v h1,au.top ht xs vs h2⟩
end
omit hR in
theorem gF.top {fr:Fr} {ρ:aK} {t t':Nat→Nat} (ht:∀u s,ρ.tk u=some s→t' s=t s) {x:TV R.T} {v:V} (h:gF fr ρ t x v):gF fr ρ t' x v:=by
 cases x with
 |opt j w y=>exact⟨fun hc=>Rl.top ht y v (h.1 hc),h.2⟩
 |_=>exact .of (Rl.top ht _ v h)
omit hR in
theorem Oe {ρ:aK} {σ σ':ah} {p:Nat} (hp:σ'.obj (ρ.om.lc p)=σ.obj (ρ.om.lc p)) (ht:∀u s,ρ.tk u=some s→σ'.top s=σ.top s):∀{x:Ob R.T},dL ρ σ p x→dL ρ σ' p x
 |.cells cs,h=>by
  obtain⟨s,l,h1,h2,h3⟩:=h
  exact⟨s,l,h1,by unfold ah.bC at h2⊢;rw[hp];exact h2,au.top ht _ _ h3⟩
 |.map k e m,h=>by
  obtain⟨s,h1,h2⟩:=h
  exact⟨s,h1,by unfold ah.eP at h2⊢;rw[hp];exact h2⟩
 |.smap ks vs,h=>by
  obtain⟨s,k,l,h1,h2,h3,h4⟩:=h
  exact⟨s,k,l,h1,by unfold ah.eP at h2⊢;rw[hp];exact h2,au.top ht _ _ h3,au.top ht _ _ h4⟩
 |.arr t l,h=>by
  refine⟨h.1, ?_⟩
  rcases h.2 with h| ⟨s,cs,h1,h2,h3⟩
  ·exact .inl h
  ·exact .inr ⟨s,cs,h1,by unfold ah.bC at h2⊢;rw[hp];exact h2,tJ l cs h3⟩
 |.sg ss,h=>by
  obtain⟨s,h1,h2⟩:=h
  exact⟨s,h1,by unfold ah.bC at h2⊢;rw[hp];exact h2⟩
 |.gone,_=>trivial
 |.ro b,h=>Oe hp ht (x:=b) h
omit hR in
theorem aG.shift {ρ:aK} {b:Nat} {st:MS R.T} {fr:Fr} {σ σ':ah} (h:aG ρ b st fr σ) (hp:∀p,σ'.obj (ρ.om.lc p)=σ.obj (ρ.om.lc p)) (ht:∀s,s<b→σ'.top s=σ.top s):aG ρ b st fr σ':={h with
 fr:=fun i v hv=>(h.fr i v hv).top fun u s hu=>ht s (h.lt u s hu)
 ob:=fun o x hx=>Oe (hp o) (fun u s hu=>ht s (h.lt u s hu)) (h.ob o x hx)}
omit hR in
theorem Vy {top:Nat→Nat}:∀{l:List Sk} {y:aH R.T l},zS l=true→au R ρ top (iC R .any l y) (bf R l y)
 | [],_,_=>rfl
 | [k],y,h=>by
   cases k<;>first| (cases h;done)|skip
   rename_i t
   cases t<;>first| (cases h;done)|skip
   all_goals exact .cons' rfl rfl
 |k::q::l,y,h=>by
  cases k<;>first| (cases h;done)|skip
  rename_i t
  cases t<;>first| (cases h;done)|skip
  all_goals exact .cons' rfl (Vy (l:=q::l) (y:=y.2) h)
omit hR in
theorem aeQ {top:Nat→Nat} {xs:List (TV R.T)} {vs:List V} (h:au R ρ top xs vs):Rl R ρ top (TD xs) (kZ vs):=by
 match xs,vs,h with
 | [],_,h=>rw[h.eX];exact⟨[],rfl,rfl⟩
 | [x],_,h=>obtain⟨v,l,rfl,h1,h2⟩:=h.dA;rw[h2.eX];exact h1
 |x::y::l,_,h=>
  obtain⟨v,ws,rfl,h1,h2⟩:=h.dA
  obtain⟨w,us,rfl,h3,h4⟩:=h2.dA
  exact⟨v::w::us,rfl,.cons' h1 (.cons' h3 h4)⟩
omit hR in
theorem Vz {m:List (Nat×Nat)} {A:List (TV R.T)} {B:List (Nat×Ob R.T)}:∀{l:List (FM R)} {r:FM R} {x:Option (aH R.T r.res×mV R.T r.obs)},Hy R m A B l=some ⟨r,x⟩→r∈l∧∃p q,fB R r.args A=some p∧lg R B r.obs=some q∧zR m r.obs=true∧zS r.res=true∧rH r.obs=true∧x=r.F p q
 | [],_,_,h=>by cases h
 |s::l,r,x,h=>by
  unfold Hy at h
  split at h
  ·rename_i p q hp hq
   obtain⟨hb,h⟩:=cB h
   rw[Bool.and_eq_true,Bool.and_eq_true] at hb
   cases h
   exact⟨List.mem_cons_self ..,p,q,hp,hq,hb.1,hb.2.1,hb.2.2,rfl⟩
  ·obtain⟨h1,h2⟩:=Vz h
   exact⟨List.mem_cons_of_mem _ h1,h2⟩
def Cx.call (c:Cx) (om:Bool) (lo:Nat) (ids:List Nat) (hnd:xg ids=true):Cx where
 om:=om
 dp:=c.dp+1
 lo:=lo
 fl:=fun p=>if F0≤p then (ids[p-F0]?).map c.lc else none
 lt:=fun p L h=>by
  split at h
  ·rename_i hp
   obtain⟨o,_,rfl⟩:=Option.map_eq_some_iff.1 h
   exact⟨hp,Nat.lt_succ_of_le (c.zV o)⟩
  ·cases h
 inj:=fun p q L h g=>by
  split at h
  ·split at g
   ·rename_i hp hq
    obtain⟨o,h1,rfl⟩:=Option.map_eq_some_iff.1 h
    obtain⟨o',h2,e⟩:=Option.map_eq_some_iff.1 g
    have:=c.M7 e
    subst this
    have:=Vs hnd h1 h2
    omega
   ·cases g
  ·cases h
omit hR in
theorem Cx.aeR {c:Cx} {om:Bool} {lo:Nat} {ids:List Nat} {hnd:xg ids=true} {p o:Nat} (hp:F0≤p) (h:ids[p-F0]? =some o):(c.call om lo ids hnd).lc p=c.lc o:=by
 unfold Cx.lc Cx.call
 dsimp only
 rw[if_pos hp,h]
 rfl
omit hR in
theorem Cx.VA {c:Cx} {om:Bool} {lo:Nat} {ids:List Nat} {hnd:xg ids=true} {L:Loc} (hL:L.1≤c.dp) (h:∀o∈ids,L≠c.lc o):(c.call om lo ids hnd).out L:=by
 intro p e
 unfold Cx.lc Cx.call at e
 dsimp only at e
 split at e
 ·rename_i M hM
  split at hM
  ·obtain⟨o,h1,rfl⟩:=Option.map_eq_some_iff.1 hM
   exact h o (List.mem_of_getElem? h1) e
  ·cases hM
 ·rw[e] at hL;dsimp only at hL;omega
theorem Og {β:Type} {M:Nat→List (FM R)} (hM:IC E M) (hi:aG ρ aB st fr σ) (hsn:aB≤σ.next) {k:MS R.T→Option β} {x:β} (h:xk R M o st k=some x):
 ∃c f g a vb,o.op= .call c∧c.callee= .value f∧fr.ev E f= .fn (.func g) a vb∧E.imp g=true∧kJ E g (a++c.args.toList.map (fr.ev E)++vb) (fr.d+1) σ fun v σ1=> ∃st1,aG ρ (aB+1) st1 (fr.put o.dst v) σ1∧σ.next≤σ1.next∧(∀p,aS false p st ρ σ st1 ρ σ1)∧k st1=some x:=by
 unfold xk at h
 split at h
 ·rename_i c hop
  split at h
  ·rename_i f fA
   split at h
   ·rename_i g a' b' vs hf hvs
    obtain⟨hnd,h⟩:=cB h
    generalize alF:pW (a'++vs++b') []=ids at*
    split at h
    ·rename_i r x' hfm
     obtain⟨⟨y,q'⟩,hy,hk⟩:=Option.bind_eq_some_iff.1 h
     obtain⟨hr,p,q,hp,hq,hks,hsc,hok,rfl⟩:=Vz hfm
     obtain⟨va,vb,Gs,hva,hvb⟩:=(aU (E:=E) hi .nil hf).mg
     have hA:=(hva.append (tK (E:=E) hi .nil hvs)).append hvb
     let ρc:aK:=⟨fun p=>if F0≤p then (ids[p-F0]?).bind ρ.ob else none,fun _=>none,fun p=>if F0≤p then (match ids[p-F0]? with|some o=>ρ.ln o|none=>0) else 0,ρ.om.call (E.om g) σ.next ids hnd⟩
     have hρ:∀{p o},F0≤p→ids[p-F0]? =some o→ρc.om.lc p=ρ.om.lc o∧ρc.ob p=ρ.ob o∧ρc.ln p=ρ.ln o:=fun {p o} h1 h2=>by
      refine⟨Cx.aeR (hnd:=hnd) h1 h2, ?_, ?_⟩
      ·show (if F0≤p then (ids[p-F0]?).bind ρ.ob else none)=_
       rw[if_pos h1,h2];rfl
      ·show (if F0≤p then (match ids[p-F0]? with|some o=>ρ.ln o|none=>0) else 0)=_
       rw[if_pos h1,h2]
     have hm:∀o p,look (jy ids F0) o=some p→ρc.om.lc p=ρ.om.lc o∧ρc.ob p=ρ.ob o∧ρc.ln p=ρ.ln o:=fun o p hp=>by
      obtain⟨h1,h2⟩:=Vr hp
      exact hρ h1 h2
     obtain⟨himp,hF⟩:=hM g r hr
     obtain⟨n,v,σ',hcall,hv,aeS,hnx,hlp,htp,hout⟩:=hF p q y q' hy ρc (va++c.args.toList.map (fr.ev E)++vb) σ rfl (fun _=>rfl) (Nat.le_refl _) (xE hR r.args p _ _ hp (au.ren hm _ _ hA)) (fun i w hw=>by
      obtain⟨kk,yy,z,h1,h2,rfl,h4⟩:=Od r.obs q hq i w hw
      obtain⟨o',h5,h6,h7⟩:=Oa h1
      obtain⟨e1,e2,e3⟩:=hρ h5 h6
      exact Vx (h4 hok) e2 e3 e1 (Np hR h2 (hi.ob _ _ h7)))
     have hst:∀s,s<aB→σ'.top s=σ.top s:=fun s hs=>htp s (Nat.lt_of_lt_of_le hs hsn)
     have hno:∀o',o'∉ids→σ'.obj (ρ.om.lc o')=σ.obj (ρ.om.lc o'):=fun o' ho'=>
      hout _ (Nat.le_succ_of_le (ρ.om.zV o')) (Cx.VA (hnd:=hnd) (ρ.om.zV o') fun o'' h2 e=>ho' (by rw[ρ.om.M7 e];exact h2))
     have Nt:aG ρ (aB+1) (⟨st.fr,pX (jy ids F0) (jO R r.obs q')++st.ob⟩:MS R.T) fr σ':={
      d:=hi.d
      om:=hi.om
      fr:=fun i w hw=>(hi.fr i w hw).top fun u s hu=>hst s (hi.lt u s hu)
      ob:=fun o' w hw=>by
       have hw':look (pX (jy ids F0) (jO R r.obs q')++st.ob) o'=some w:=hw
       rw[tL] at hw'
       split at hw'
       ·rename_i z hz
        cases hw'
        obtain⟨p',h1,h2,h3⟩:=Oc hz
        obtain⟨kk,zz,h4,rfl⟩:=Vu hok h3
        obtain⟨e1,e2,e3⟩:=hρ h1 h2
        exact Vx h4 e2.symm e3.symm e1.symm (aeS _ _ h3)
       ·rename_i hz
        have hn:=Vt (fun p' h1 h2=>IE hks p' h1 h2) hz
        exact Oe (hno o' hn) (fun u s hu=>hst s (hi.lt u s hu)) (hi.ob _ _ hw')
      inj:=hi.inj
      lt:=fun t s ht=>Nat.lt_succ_of_lt (hi.lt t s ht)
      ge:=hi.ge
      nx:=Nat.le_succ_of_le hi.nx}
     refine⟨c,f,g,va,vb,hop,fA,Gs,himp,n,v,σ', ?_,_, ?_,hnx, ?_,hk⟩
     ·rw[hi.d];exact hcall
     ·rw[hv]
      exact Nt.dR o.dst (aeQ (Vy hsc))
     ·intro p'
      refine aS.congr (st':=(⟨st.fr,pX (jy ids F0) (jO R r.obs q')++st.ob⟩:MS R.T)) ⟨rfl,rfl,rfl,hnx,⟨hlp,fun s hs=>hst s (Nat.lt_of_lt_of_le hs hi.nx)⟩,fun L hL ho=> ?_,fun hro=> ?_⟩ kM
      ·have hL':L.1≤ρ.om.dp:=by rcases hL with e|e;cases e;exact e
       exact hout L (Nat.le_succ_of_le hL') (Cx.VA (hnd:=hnd) hL' fun o' _=>ho o')
      ·have hn:p'∉ids:=by
        intro hmem
        obtain⟨i,hi'⟩:=List.getElem?_of_mem hmem
        have hlt:i<ids.length:=by
         rcases Nat.lt_or_ge i ids.length with h|h
         ·exact h
         ·rw[List.getElem?_eq_none h] at hi';cases hi'
        obtain⟨w,hw⟩:=IE (q:=q) hks (F0+i) (Nat.le_add_right _ _) (by omega)
        obtain⟨kk,yy,z,h1,h2,_,_⟩:=Od r.obs q hq _ _ hw
        obtain⟨o',h5,h6,h7⟩:=Oa h1
        rw[Nat.add_sub_cancel_left,hi'] at h6
        cases h6
        exact Nq h2 (hro _ h7)
       refine⟨fun w hw=> ?_,fun s=> ?_⟩
       ·have hw':look (pX (jy ids F0) (jO R r.obs q')++st.ob) p'=some w:=hw
        rw[tL] at hw'
        split at hw'
        ·rename_i z hz
         obtain⟨p'',h1,h2,h3⟩:=Oc hz
         exact absurd (List.mem_of_getElem? h2) hn
        ·exact hro _ hw'
       ·unfold ah.bC ah.eP
        rw[hno p' hn]
        exact⟨rfl,rfl⟩
    ·cases h
   ·cases h
  ·cases h
 ·cases h
end
end Aq
end
