/- Part of the proof of a law. -/
import Derived.Test.YtdcnajadcbedkaaGreatDoorS809
set_option linter.all false
set_option linter.unusedSimpArgs false
set_option linter.unusedSectionVars false
section
namespace Aq
open Go
set_option linter.unusedSectionVars false
set_option linter.unusedVariables false
section
variable {R:fU} {E:Env}
variable {ρ:aL} {top:Nat→Nat} {b aD:Nat} {st:MS R.T} {fr:Fr} {σ:ah} {o:Oper}
theorem I7 {P:Program} {t e:TypeId} {n:Nat} (h:nX P t=some (n,e)):P.underlying t=some (.array n e):=by
 unfold nX at h
 split at h
 ·rename_i n' e' hu;cases h;exact hu
 ·cases h
theorem xg {t:TypeId} (h:oK E t=true):bJ E.P t=some 1∧fP E.P t=some false:=by
 unfold oK at h
 split at h
 ·rename_i sz ag h1 h2
  rw[Bool.and_eq_true] at h
  rw[dI h.1] at h1
  cases ag
  ·exact⟨h1,h2⟩
  ·simp at h
 ·cases h
theorem vE (a b:List Sg):iw (a++b)=iw a+iw b:=by rw[←fD,nS,List.length_append,fD,fD]
theorem XC {pre rest:List Sg} {n:Nat} (h:iw pre=n) (k:Nat):(bH (pre++rest)).drop (n+k)=(bH rest).drop k:=by
 rw[nS,←h,←fD,List.drop_append,List.drop_of_length_le (by omega),List.nil_append,Nat.add_sub_cancel_left]
theorem I8 (s:Sg) (l:List Sg):bH (s::l)=s.vs++bH l:=rfl
theorem I9 (s:Sg) (l:List Sg):iw (s::l)=s.w+iw l:=rfl
theorem Pt {ρ:aL} {top:Nat→Nat} (k:IntKind):∀l:List Int,aB R ρ top (l.map (TV.int k)) (l.map (V.int k))
 | []=>rfl
 |x::l=>.cons' (by unfold Rl;rfl) (Pt k l)
theorem ag3 {n:Nat} (v:Vec n):(List.range n).map v.nth=v.l:=by
 apply List.ext_getElem
 ·rw[List.length_map,List.length_range,v.h]
 ·intro i h1 h2
  rw[List.getElem_map,List.getElem_range]
  unfold Vec.nth
  rw[List.getD_eq_getElem?_getD,List.getElem?_eq_getElem h2];rfl
theorem Pv {ρ:aL} {top:Nat→Nat}:∀ss:List Sg,aB R ρ top (CG ss) (bH ss)
 | []=>rfl
 |.i k x::l=>.cons' (by unfold Rl;rfl) (Pv l)
 |.a k n v::l=>by
  show aB R ρ top ((List.range n).map (fun j=>TV.int k (v.nth j))++CG l) (v.l.map (V.int k)++bH l)
  refine aB.append ?_ (Pv l)
  have:(List.range n).map (fun j=>TV.int (T:=R.T) k (v.nth j))=v.l.map (TV.int k):=by
   rw[←ag3 v,List.map_map];rfl
  rw[this]
  exact Pt k v.l
theorem XD {t:TypeId} {ss:List Sg} {off:Nat} {v:TV R.T} (h:Il E R t ss off=some v):∃y,dJ E.P t (bH ss) off=some y∧Rl R ρ top v y:=by
 unfold Il at h
 split at h
 ·rename_i pre rest sz ag h1 h2 h3
  obtain⟨e1,w1⟩:=qK h1
  split at h
  ·rename_i mid post h4
   obtain⟨e2,w2⟩:=qK h4
   have hd:(bH ss).drop off=bH mid++bH post:=by
    have:=XC (rest:=rest) w1 0
    rw[←e1,Nat.add_zero] at this
    rw[this,e2,nS];rfl
   have hlen:(bH ss).length=off+(sz+iw post):=by rw[fD,e1,vE,w1,e2,vE,w2]
   unfold dJ;rw[h3,h2];simp only[Option.bind_some]
   cases ag with
   |true=>
    rw[cond_true] at h
    have hp:lM true sz (bH ss) off=some (.agg (bH mid)):=by
     unfold lM;rw[if_pos rfl,if_pos (by omega),hd,List.take_append_of_le_length (by rw[fD,w2];exact Nat.le_refl _),List.take_of_length_le (by rw[fD,w2];exact Nat.le_refl _)]
    split at h
    ·cases h;exact⟨_,hp,by unfold Rl;rfl⟩
    ·cases h;exact⟨_,hp,by unfold Rl;exact⟨_,rfl,Pv mid⟩⟩
   |false=>
    rw[cond_false] at h
    split at h
    ·rename_i k x
     cases h
     refine⟨.int k x, ?_,by unfold Rl;rfl⟩
     unfold lM;simp only[Bool.false_eq_true,if_false]
     have:=congrArg (fun l=>l[0]?) hd
     rw[List.getElem?_drop,Nat.add_zero] at this
     rw[this];rfl
    ·cases h
  ·cases h
 ·cases h
theorem XE {n:Nat} (v:Vec n) {i:Int} (h:i.toNat<n):v.l[i.toNat]? =some (v.at' i):=by
 unfold Vec.at'
 rw[List.getD_eq_getElem?_getD,List.getElem?_eq_getElem (by rw[v.h];exact h)];rfl
theorem XF {ss pre post:List Sg} {off n:Nat} {k:IntKind} {v:Vec n} {i:Int} {t:TypeId} (h:mM ss off=some (pre,.a k n v::post)) (hi:i.toNat<n) (ht:oK E t=true):dJ E.P t (bH ss) (off+i.toNat)=some (.int k (v.at' i)):=by
 obtain⟨e1,w1⟩:=qK h
 obtain⟨h1,h2⟩:=xg ht
 unfold dJ;rw[h1,h2];simp only[Option.bind_some]
 unfold lM;simp only[Bool.false_eq_true,if_false]
 rw[e1,nS,List.getElem?_append_right (by rw[fD,w1];omega),fD,w1,Nat.add_sub_cancel_left,I8,List.getElem?_append_left (by rw[Sg.len];exact hi)]
 show (v.l.map (V.int k))[i.toNat]? =_
 rw[List.getElem?_map,XE v hi];rfl
theorem Dc {n:Nat} {l:List Int} (h:l.length=n):(Vec.lit n l).l=l:=by
 unfold Vec.lit;rw[dif_pos h]
theorem ag4 {l:List Int} {a m:Nat} (h:a+m≤l.length):(List.range m).map (fun j=>l.getD (a+j) 0)=(l.drop a).take m:=by
 apply List.ext_getElem
 ·rw[List.length_map,List.length_range,List.length_take,List.length_drop];omega
 ·intro i h1 h2
  rw[List.length_map,List.length_range] at h1
  rw[List.getElem_map,List.getElem_range,List.getElem_take,List.getElem_drop,List.getD_eq_getElem?_getD,List.getElem?_eq_getElem (by omega)];rfl
theorem ag5 {t:TypeId} {ss pre post:List Sg} {off n m:Nat} {k:IntKind} {v:Vec n} {i:Int} {y:TV R.T} (h:mM ss off=some (pre,.a k n v::post)) (hi:i.toNat+m≤n) (hs:Ov E R t k m n v i=some y):∃x,dJ E.P t (bH ss) (off+i.toNat)=some x∧Rl R ρ top y x:=by
 obtain⟨e1,w1⟩:=qK h
 unfold Ov at hs
 split at hs
 ·rename_i m' e sz h1 h2 h3
  obtain⟨hc,hs⟩:=dA hs
  rw[Bool.and_eq_true] at hc
  have e2:=dI hc.1;have e3:=dI hc.2
  rw[e3] at h2
  have hp:dJ E.P t (bH ss) (off+i.toNat)=some (.agg (((v.l.drop i.toNat).take m).map (V.int k))):=by
   unfold dJ;rw[h3,h2];simp only[Option.bind_some]
   unfold lM
   rw[if_pos rfl,if_pos (by rw[fD,e1,vE,w1,I9];show off+i.toNat+m≤off+(n+_);omega)]
   rw[e1,XC w1,I8]
   show some (V.agg ((((v.l.map (V.int k))++bH post).drop i.toNat).take m))=_
   rw[List.drop_append_of_le_length (by rw[List.length_map,v.h];omega),List.take_append_of_le_length (by rw[List.length_drop,List.length_map,v.h];omega),List.map_take,List.map_drop]
  refine⟨_,hp, ?_⟩
  have hl:((v.l.drop i.toNat).take m).length=m:=by rw[List.length_take,List.length_drop,v.h];omega
  split at hs
  ·cases hs
   unfold Rl
   show V.agg _= .agg (((v.slc i m).l.map (V.int k))++[])
   unfold Vec.slc
   rw[Dc hl,List.append_nil]
  ·cases hs
   unfold Rl
   refine⟨_,rfl, ?_⟩
   have:=ag4 (l:=v.l) (a:=i.toNat) (m:=m) (by rw[v.h];exact hi)
   have e:(List.range m).map (fun j=>TV.int (T:=R.T) k (v.nth (i.toNat+j)))=((v.l.drop i.toNat).take m).map (TV.int k):=by
    rw[←this,List.map_map];rfl
   rw[e];exact Pt k _
 ·cases hs
def kW:List iH→Nat
 | []=>0
 |.i _::l=>1+kW l
 |.a _ n::l=>n+kW l
theorem Ja:∀ss:List Sg,kW (ss.map Sg.sk)=iw ss
 | []=>rfl
 |.i k x::l=>by show 1+kW (l.map Sg.sk)=1+iw l;rw[Ja l]
 |.a k n v::l=>by show n+kW (l.map Sg.sk)=n+iw l;rw[Ja l]
theorem ag6:∀{ks:List iH} {cs:List (TV R.T)} {ss:List Sg} {vs:List V},u6 ks cs=some ss→aB R ρ top cs vs→vs=bH ss∧iw ss=kW ks:=by
 intro ks
 induction ks with
 |nil=>
  intro cs ss vs h hr
  cases cs with
  |nil=>cases h;exact⟨hr.eH,rfl⟩
  |cons c cs=>cases h
 |cons k ks ih=>
  intro cs ss vs h hr
  cases k with
  |i k=>
   cases cs with
   |nil=>cases h
   |cons c cs=>
    obtain⟨v,ws,rfl,h1,h2⟩:=hr.dH
    cases c<;>first| (exact absurd (show none=some ss from h) (by simp))|skip
    rename_i k' x
    have h':(if k'=k then (match u6 ks cs with
     |some r=>some (Sg.i k x::r)
     |none=>none) else none)=some ss:=h
    by_cases e:k'=k
    ·subst e
     rw[if_pos rfl] at h'
     cases hc:u6 ks cs with
     |none=>rw[hc] at h';cases h'
     |some r=>
      rw[hc] at h';cases h'
      obtain⟨g1,g2⟩:=ih hc h2
      exact⟨by rw[h1.fq,g1];rfl,by show 1+iw r=1+kW ks;rw[g2]⟩
    ·rw[if_neg e] at h';cases h'
  |a k n=>
   have h':(match wK k (cs.take n) with
    |some xs=>bif Nat.beq xs.length n then (match u6 ks (cs.drop n) with
     |some r=>some (Sg.a k n (Vec.lit n xs)::r)
     |none=>none) else none
    |none=>none)=some ss:=by cases cs<;>exact h
   cases hx:wK k (cs.take n) with
   |none=>rw[hx] at h';cases h'
   |some xs=>
    rw[hx] at h'
    dsimp only at h'
    obtain⟨hb,h'⟩:=dA h'
    have hb:=dI hb
    cases hc:u6 ks (cs.drop n) with
    |none=>rw[hc] at h';cases h'
    |some r=>
     rw[hc] at h';cases h'
     obtain⟨g1,g2⟩:=ih hc (hr.drop n)
     have g3:=Pp hx (hr.take n)
     refine⟨?_,by show n+iw r=n+kW ks;rw[g2]⟩
     show vs=(Vec.lit n xs).l.map (V.int k)++bH r
     rw[Dc hb,←g3,←g1,List.take_append_drop]
theorem Pw:∀{a b:List iH},zl a b=true→a=b
 | [],[],_=>rfl
 |.i k::l,.i k'::l',h=>by
  have h':((if k=k' then true else false)&& zl l l')=true:=h
  rw[Bool.and_eq_true] at h'
  have e:k=k':=by by_cases e:k=k';exact e;rw[if_neg e] at h';cases h'.1
  rw[e,Pw h'.2]
 |.a k n::l,.a k' n'::l',h=>by
  have h':((if k=k' then true else false)&& Nat.beq n n'&& zl l l')=true:=h
  rw[Bool.and_eq_true,Bool.and_eq_true] at h'
  have e:k=k':=by by_cases e:k=k';exact e;rw[if_neg e] at h';cases h'.1.1
  rw[e,dI h'.1.2,Pw h'.2]
 | [],.i _::_,h=>by cases h
 | [],.a _ _::_,h=>by cases h
 |.i _::_,[],h=>by cases h
 |.a _ _::_,[],h=>by cases h
 |.i _::_,.a _ _::_,h=>by cases h
 |.a _ _::_,.i _::_,h=>by cases h
theorem Df:∀ss:List Sg,bf (bH ss)=true
 | []=>rfl
 |.i k x::l=>by show (oneCell (.int k x)&& bf (bH l))=true;rw[Df l];rfl
 |.a k n v::l=>by
  show bf (v.l.map (V.int k)++bH l)=true
  have h1:=Df l
  unfold bf at h1⊢
  rw[List.all_append,h1,List.all_map];simp[oneCell]
theorem XG {ks:List iH} {tv:TV R.T} {ss:List Sg} {v:V} (h:Ik ks tv=some ss) (hr:Rl R ρ top tv v):v.cells=bH ss∧iw ss=kW ks∧dn v=true:=by
 unfold Ik at h
 split at h
 ·rename_i ss'
  obtain⟨h1,h⟩:=dA h
  cases h
  rw[hr.CQ,Pw h1]
  exact⟨rfl,(Ja ss).symm,rfl⟩
 ·obtain⟨l,rfl,hl⟩:=hr.jA
  obtain⟨h1,h2⟩:=ag6 h hl
  exact⟨h1,h2,rfl⟩
 ·rename_i k x
  split at h
  ·split at h
   ·rename_i e;subst e;cases h
    rw[hr.fq];exact⟨rfl,rfl,rfl⟩
   ·cases h
  ·cases h
 ·cases h
theorem Px {k:IntKind}:∀{cs:List (TV R.T)} {vs:List V},wO k cs=true→aB R ρ top cs vs→vs=List.replicate cs.length (V.int k 0)
 | [],vs,_,hr=>hr.eH
 |c::cs,vs,h,hr=>by
  obtain⟨v,ws,rfl,h1,h2⟩:=hr.dH
  cases c<;>first| (exact absurd (show false=true from h) (by simp))|skip
  rename_i k' x
  have h':((if k'=k then (if x=0 then true else false) else false)&& wO k cs)=true:=h
  rw[Bool.and_eq_true] at h'
  have e1:k'=k:=by by_cases e:k'=k;exact e;rw[if_neg e] at h';cases h'.1
  have e2:x=0:=by by_cases e:x=0;exact e;rw[if_pos e1,if_neg e] at h';cases h'.1
  rw[h1.fq,e1,e2,Px h'.2 h2];rfl
theorem ag7:∀{ks:List iH} {cs:List (TV R.T)} {vs:List V},zk ks cs=true→aB R ρ top cs vs→vs=bH (ks.map Ij):=by
 intro ks
 induction ks with
 |nil=>
  intro cs vs h hr
  cases cs with
  |nil=>exact hr.eH
  |cons c cs=>cases h
 |cons k ks ih=>
  intro cs vs h hr
  cases k with
  |i k=>
   cases cs with
   |nil=>cases h
   |cons c cs=>
    obtain⟨v,ws,rfl,h1,h2⟩:=hr.dH
    have h':(wO k [c]&& zk ks cs)=true:=h
    rw[Bool.and_eq_true] at h'
    have:=Px h'.1 (aB.cons' h1 aB.nil')
    cases this
    rw[ih h'.2 h2];rfl
  |a k n=>
   have h':(Nat.ble n cs.length&& wO k (cs.take n)&& zk ks (cs.drop n))=true:=by cases cs<;>exact h
   rw[Bool.and_eq_true,Bool.and_eq_true] at h'
   have h1:=Nat.le_of_ble_eq_true h'.1.1
   have h2:=Px h'.1.2 (hr.take n)
   have h3:=ih h'.2 (hr.drop n)
   rw[←List.take_append_drop n vs,h2,h3,List.length_take,Nat.min_eq_left h1]
   show _=(List.replicate n (0:Int)).map (V.int k)++bH (ks.map Ij)
   rw[List.map_replicate]
theorem ag8 {pre mid post mid':List Sg} {off sz:Nat} (h1:iw pre=off) (h2:iw mid=sz) (h3:iw mid'=sz):dZ (bH (pre++(mid++post))) off (bH mid')=bH (pre++(mid'++post)):=by
 unfold dZ
 rw[nS,nS,nS,nS,fD,h3]
 rw[List.take_append_of_le_length (by rw[fD,h1];exact Nat.le_refl _),List.take_of_length_le (by rw[fD,h1];exact Nat.le_refl _)]
 rw[←List.append_assoc (bH pre) (bH mid),List.drop_append_of_le_length (by rw[List.length_append,fD,fD,h1,h2];exact Nat.le_refl _),List.drop_of_length_le (by rw[List.length_append,fD,fD,h1,h2];exact Nat.le_refl _)]
 rw[List.nil_append,List.append_assoc]
theorem XH {pre post:List Sg} {off n a:Nat} {k:IntKind} {v w:Vec n} {l:List Int} (h1:iw pre=off) (h2:a+l.length≤n) (h3:w.l=v.l.take a++l++v.l.drop (a+l.length)):dZ (bH (pre++(.a k n v::post))) (off+a) (l.map (V.int k))=bH (pre++(.a k n w::post)):=by
 unfold dZ
 rw[nS,nS,I8,I8]
 show ((bH pre++(v.l.map (V.int k)++bH post)).take (off+a)++l.map (V.int k)++(bH pre++(v.l.map (V.int k)++bH post)).drop (off+a+(l.map (V.int k)).length))=bH pre++(w.l.map (V.int k)++bH post)
 have hp:(bH pre).length=off:=by rw[fD,h1]
 have hv:(v.l.map (V.int k)).length=n:=by rw[List.length_map,v.h]
 rw[List.length_map]
 rw[List.take_append,List.take_of_length_le (by omega),hp,Nat.add_sub_cancel_left,List.take_append_of_le_length (by omega)]
 rw[List.drop_append,List.drop_of_length_le (by omega),hp,List.nil_append,show off+a+l.length-off=a+l.length by omega,List.drop_append_of_le_length (by omega)]
 rw[h3,List.map_append,List.map_append,List.map_take,List.map_drop]
 simp only[List.append_assoc]
theorem ag9 {l:List Int} {a:Nat} {y:Int} (h:a<l.length):l.set a y=l.take a++[y]++l.drop (a+1):=by
 rw[List.set_eq_take_append_cons_drop,if_pos h];simp
theorem Py {g:Nat} {t:TypeId} {k:IntKind} {n:Nat} {v:Vec n} (h:Io E R g t=some ⟨k,n,v⟩):∃cs e,E.glob g=some cs∧cs=v.l.map (V.int k)∧nX E.P t=some (n,e)∧bJ E.P t=some n∧fP E.P t=some true∧oK E e=true:=by
 unfold Io at h
 split at h
 ·rename_i cs k' n' v' m e sz ag h1 h2 h3 h4 h5
  obtain⟨hc,h⟩:=dA h
  cases h
  simp only[Bool.and_eq_true] at hc
  obtain⟨⟨⟨⟨c1,c2⟩,c3⟩,c4⟩,c5⟩:=hc
  subst c1
  rw[dI c2] at h3;rw[dI c3] at h4
  refine⟨cs,e,h1, ?_,h3,h4,h5,c4⟩
  have key:∀(cs:List V) (l:List Int),Im k cs l=true→cs=l.map (V.int k):=by
   intro cs
   induction cs with
   |nil=>intro l h;cases l with
    |nil=>rfl
    |cons y l=>cases h
   |cons c cs ih=>
    intro l h
    cases l with
    |nil=>cases c<;>cases h
    |cons y l=>
     cases c<;>first| (exact absurd (show false=true from h) (by simp))|skip
     rename_i k' x
     have h':((if k'=k then (if x=y then true else false) else false)&& Im k cs l)=true:=h
     rw[Bool.and_eq_true] at h'
     have e1:k'=k:=by by_cases e:k'=k;exact e;rw[if_neg e] at h';cases h'.1
     have e2:x=y:=by by_cases e:x=y;exact e;rw[if_pos e1,if_neg e] at h';cases h'.1
     rw[e1,e2,ih l h'.2];rfl
  exact key cs v.l c5
 ·cases h
theorem Jb {i:Int} {n:Nat} (h:bq i n=true):0≤i∧i<n∧i.toNat<n:=by
 have:=of_decide_eq_true h
 omega
theorem Pz {k:IntKind} {i:Int} {n:Nat} (h:bq i n=true):idx (.int k i) n=some i.toNat:=by
 obtain⟨h1,h2,_⟩:=Jb h
 simp[idx,kg,h1,h2]
theorem Jc {k:IntKind} {i:Int} {n:Nat} (h1:0≤i) (h2:i≤n):bnd (.int k i) n=some i.toNat:=by
 simp[bnd,kg,h1,h2]
theorem aha {n:Nat} {lo hi:Option Int} {vl vh:Option V} (hl:(lo=none∧vl=none)∨∃n k,lo=some n∧vl=some (.int k n)) (hh:(hi=none∧vh=none)∨∃n k,hi=some n∧vh=some (.int k n)) (hb:lX n lo hi=true):
 iY n n vl vh none=some ((dx lo).toNat,(eY n hi).toNat,n):=by
 rcases hl with ⟨rfl,rfl⟩| ⟨a,k,rfl,rfl⟩<;>rcases hh with ⟨rfl,rfl⟩| ⟨c,k',rfl,rfl⟩<;>simp only[lX,decide_eq_true_eq] at hb
 ·simp[iY,dx,eY]
 ·simp[iY,dx,eY,Jc hb.1 hb.2]
 ·simp[iY,dx,eY,Jc (i:=a) (n:=n) hb.1 (by omega)]
 ·simp[iY,dx,eY,Jc (i:=c) (n:=n) (by omega) hb.2.2.1,Jc (i:=a) (n:=c.toNat) hb.1 (by omega)]
theorem ahb {P:Program} {t e:TypeId} {y:V} {ys cs:List V} {loc:Aq.Loc} {s off len cap:Nat} {ag:Bool} (he:gG P t=some e) (z1:bJ P e=some 1) (z2:fP P e=some false) (q2:qP y=false) (q1:jo σ false 1 aC y=some ys) (hone:ys.all (fun v=>bf v.cells)=true)
 (h4:σ.bO loc s=some cs) (hb:off+min ys.length len≤cs.length):copyV P σ t (.vw loc s off len cap 1 ag) y=some (.int .i64 (min ys.length len:Nat),σ.setObj loc s (.cells (dZ cs off ((ys.take (min ys.length len)).flatMap V.cells)))):=by
 unfold copyV
 rw[he];simp only[Option.bind_some,z1,z2]
 rw[if_pos ⟨q2,rfl⟩,q1];simp only[Option.bind_some]
 rw[if_pos hone,h4];simp only[Option.bind_some]
 rw[if_pos ⟨trivial,by rw[Nat.mul_one];exact hb⟩]
theorem Jd {t:TypeId} {x:TV R.T} {lo hi:Option (TV R.T)} {v:V} {vl vh:Option V} {r:dG R} (h:u7 E R t x lo hi st=some r) (hx:Rl R ρ σ.top x v) (him:aH ρ b st fr σ)
 (hl:∀y,lo=some y→∃w,vl=some w∧Rl R ρ σ.top y w) (hln:lo=none→vl=none) (hh:∀y,hi=some y→∃w,vh=some w∧Rl R ρ σ.top y w) (hhn:hi=none→vh=none):mX ρ σ.top (ko E.P σ t v vl vh none) r:=by
 unfold u7 at h
 split at h
 ·rename_i p off lo' hi' n e e1 e2 ha
  have b1:=IL e1 hl hln
  have b2:=IL e2 hh hhn
  obtain⟨hel,h⟩:=dA h
  obtain⟨z1,z2⟩:=xg hel
  obtain⟨s,h1,rfl⟩:=hx.mR
  have fin:∀(k:IntKind) (cs:List V),σ.bO (ρ.om.lc p) s=some cs→off+n≤cs.length→lX n lo' hi'=true→∃y,ko E.P σ t (.ref (ρ.om.lc p) s off) vl vh none=some y∧Rl R ρ σ.top (.sv p off k n lo' hi') y:=by
   intro k cs hc hlen hB
   obtain⟨p1,p2,p3,_,_⟩:=w9 hB
   refine⟨_, ?_,by unfold Rl;exact⟨s,h1,hB,rfl⟩⟩
   unfold ko
   rw[I7 ha];dsimp only
   rw[z1,z2,aha b1 b2 hB,hc]
   simp only[Option.bind_some,Nat.mul_one]
   rw[if_pos hlen,if_neg (by omega)]
  split at h
  ·rename_i ss hl'
   obtain⟨s',h3,h4⟩:=him.rd hl'
   rw[h1] at h3;cases h3
   split at h
   ·rename_i pre k n' v' post hsp
    obtain⟨hb,h⟩:=dA h
    have:=dI hb;subst this
    cases h
    obtain⟨e3,hw⟩:=qK hsp
    intro hc
    exact fin k _ h4 (by rw[fD,e3,vE,hw,I9];show off+n'≤off+(n'+_);omega) hc
   ·cases h
  ·rename_i cs hl'
   obtain⟨s',vs,h3,h4,h5⟩:=him.rd hl'
   rw[h1] at h3;cases h3
   split at h
   ·rename_i k _ _ _
    obtain⟨hb,h⟩:=dA h
    cases h
    intro hc
    exact fin k _ h4 (by rw[h5.length];exact Nat.le_of_ble_eq_true hb) hc
   ·cases h
  ·cases h
 ·cases h
end
end Aq
end
section
namespace Aq
open Go
set_option linter.unusedSectionVars false
set_option linter.unusedVariables false
section
variable {R:fU} {E:Env}
variable {ρ:aL} {top:Nat→Nat} {b aD:Nat} {st:MS R.T} {fr:Fr} {σ:ah} {o:Oper}
theorem pY.val {v:Option V} {r:dG R} (hv:mX ρ σ.top v r) (ho:∀y,v=some y→aX E fr σ aD o=some (y,σ)):pY E st ρ aD fr σ o r:=by
 cases r with
 |t x=>obtain⟨y,e,hr⟩:=hv;exact⟨y,.gL (ho y e),hr⟩
 |c c x=>intro hc;obtain⟨y,e,hr⟩:=hv hc;exact⟨y,.gL (ho y e),hr⟩
 |p α d o' f=>intro a ha;obtain⟨y,e,hr⟩:=hv a ha;exact⟨y,.gL (ho y e),hr⟩
 |w x s=>exact hv.elim
 |wc c x s=>exact hv.elim
theorem pY.tt {x:TV R.T} {y:V} (ho:aX E fr σ aD o=some (y,σ)) (hr:Rl R ρ σ.top x y):pY E st ρ aD fr σ o (.t x):=⟨y,.gL ho,hr⟩
theorem Dh {x:Operand}:fQ E fr (some x)=some (fr.ev E x):=rfl
theorem XI {top:Nat→Nat} {x y v:TV R.T} {w:V} (h:zi true x y=some v) (hx:Rl R ρ top x w):Rl R ρ top v w:=by
 unfold zi at h
 split at h<;>try cases h
 ·split at h
  ·cases h;exact hx
  ·cases h
 all_goals first|exact hx| (unfold Rl at hx⊢;exact hx)
theorem XJ {top:Nat→Nat} {x y v:TV R.T} {w:V} (h:zi false x y=some v) (hx:Rl R ρ top y w):Rl R ρ top v w:=by
 unfold zi at h
 split at h<;>try cases h
 ·split at h
  ·rename_i e;subst e;cases h;exact hx
  ·cases h
 all_goals first|exact hx| (unfold Rl at hx⊢;exact hx)
theorem zR {c a' b':Operand} {t:Bool} (hop:o.op= .pick c a' b') (hc:fr.ev E c= .bool t):aX E fr σ aD o=some (if t then fr.ev E a' else fr.ev E b',σ):=by
 simp only[aX,hop,hc,mg,Option.map_some]
variable (hR:lZ R)
include hR
theorem ahc {t:TypeId} {m x:TV R.T} {v w:V} {ok:Bool} {r:dG R} (h:Ie E R t m x ok st=some r) (hm:Rl R ρ σ.top m v) (hx:Rl R ρ σ.top x w) (hi:aH ρ b st fr σ):mX ρ σ.top (qO E.P σ t v w ok) r:=by
 unfold Ie at h
 split at h
 ·rename_i o
  split at h
  ·rename_i k e m hl
   obtain⟨s,h1,rfl⟩:=hm.sQ
   obtain⟨s',h2,h3⟩:=hi.rd hl
   rw[h1] at h2;cases h2
   exact O9 hR h hx h3
  ·cases h
 ·rename_i k e m
  exact O9 hR h hx (by rw[hm.zC];rfl)
 ·split at h
  ·split at h
   ·unfold Rl at hm;subst hm
    exact O9 hR h hx rfl
   ·cases h
  ·cases h
 ·cases h
omit hR in
theorem XK {top:Nat→Nat} {x y:TV R.T} {v w:V} {r:Bool} (h:Ig x y=some r) (hx:Rl R ρ top x v) (hy:Rl R ρ top y w):kM v w=some r:=by
 unfold Ig at h
 split at h
 ·rw[hx.fq,hy.fq];exact h
 ·cases h;rw[hx.kX,hy.kX];rfl
 ·cases h
omit hR in
theorem XL {top:Nat→Nat} {t:TypeId} {x:TV R.T} {v:V} (h:Ih E t x=true) (hx:Rl R ρ top x v):jI E.P t v=true:=by
 unfold Ih at h
 split at h
 ·rename_i hu;rw[hx.fq];unfold jI;rw[hu]
 ·rename_i hu;rw[hx.kX];unfold jI;rw[hu]
 ·cases h
omit hR in
theorem XM {top:Nat→Nat} {x y:TV R.T} {v w:V} (hx:Rl R ρ top x v) (hy:Rl R ρ top y w):∀{ks vs:List (TV R.T)} {ks' vs':List (TV R.T)} {k l:List V},Ii x y ks vs=some (ks',vs')→aB R ρ top ks k→aB R ρ top vs l→
 ∃k' l',qN v w k l=some (k',l')∧aB R ρ top ks' k'∧aB R ρ top vs' l'
 | [],[],_,_,k,l,h,h1,h2=>by
   cases h
   rw[h1.eH,h2.eH]
   exact⟨_,_,rfl,.cons' hx rfl,.cons' hy rfl⟩
 | [],_::_,_,_,_,_,h,_,_=>by cases h
 |_::_,[],_,_,_,_,h,_,_=>by cases h
 |a::ks,b::vs,ks',vs',k,l,h,h1,h2=>by
  obtain⟨k0,k,rfl,g1,g2⟩:=h1.dH
  obtain⟨l0,l,rfl,g3,g4⟩:=h2.dH
  unfold Ii at h
  split at h
  ·rename_i c hc
   have he:=XK hc hx g1
   cases c with
   |true=>cases h;exact⟨v::k,w::l,by simp[qN,he],.cons' hx g2,.cons' hy g4⟩
   |false=>
    rw[cond_false] at h
    split at h
    ·rename_i ks1 vs1 hs
     cases h
     obtain⟨k',l',e1,e2,e3⟩:=XM hx hy hs g2 g4
     exact⟨k0::k',l0::l',by simp[qN,he,e1],.cons' g1 e2,.cons' g3 e3⟩
    ·cases h
  ·cases h
theorem XO {t:TypeId} {m x y:TV R.T} {v w u:V} {r:dG R} (h:za E R t m x y st=some r) (hm:Rl R ρ σ.top m v) (hx:Rl R ρ σ.top x w) (hy:Rl R ρ σ.top y u) (hi:aH ρ aD st fr σ)
 (ho:∀σ',nY E.P σ t v w u=some σ'→aX E fr σ aD o=some (aC,σ')):pY E st ρ aD fr σ o r:=by
 unfold za at h
 split at h
 ·rename_i p
  split at h
  ·rename_i k e m hl
   split at h
   ·rename_i kt et ht
    obtain⟨hk,h⟩:=dA h
    split at h
    ·rename_i a c ha hc
     cases h
     obtain⟨s,h1,rfl⟩:=hm.sQ
     obtain⟨s',h2,h3⟩:=hi.ob _ _ hl
     rw[h1] at h2;cases h2
     have hw:=Xe hR hk ha hx
     subst hw
     unfold VU at hc
     obtain⟨hs,hc⟩:=dA hc
     have hu:u=aG R e c:=by
      have h4:=OL hR hc hy
      have h5:=I6 hR y u hs hy
      have h6:=h4.2.2.1 0 σ
      rw[ji h5] at h6
      exact Option.some.inj h6
     subst hu
     have hup:nY E.P σ t (.bN (ρ.om.lc p) s) (aG R k a) (aG R e c)=some (σ.setObj (ρ.om.lc p) s (.map ((uY (jY R k) a c m).map fun q=>aG R k q.1) ((uY (jY R k) a c m).map fun q=>aG R e q.2))):=by
      unfold nY
      rw[ht];simp only[Option.bind_some]
      rw[if_pos (IU hR hk a a).2,h3]
      simp only[Option.bind_some]
      rw[Xd hR hk a c m];rfl
     refine⟨aC,_,ρ,.gL (ho _ hup),(hi.le (Nat.le_succ _)).set p s ⟨s,h1,map_eq _ _ _ _ _⟩,rfl,by unfold Rl;rfl,fun q _=>aV.set hl rfl⟩
    ·cases h
   ·cases h
  ·rename_i ks vs hl
   split at h
   ·rename_i kt et ht
    obtain⟨hk,h⟩:=dA h
    split at h
    ·rename_i ks' vs' hs
     cases h
     obtain⟨s,h1,rfl⟩:=hm.sQ
     obtain⟨s',k0,l0,h2,h3,h4,h5⟩:=hi.ob _ _ hl
     rw[h1] at h2;cases h2
     obtain⟨k1,l1,g1,g2,g3⟩:=XM hx hy hs h4 h5
     have hup:nY E.P σ t (.bN (ρ.om.lc p) s) w u=some (σ.setObj (ρ.om.lc p) s (.map k1 l1)):=by
      unfold nY
      rw[ht];simp only[Option.bind_some]
      rw[if_pos (XL hk hx),h3]
      simp only[Option.bind_some]
      rw[g1];rfl
     refine⟨aC,_,ρ,.gL (ho _ hup),(hi.le (Nat.le_succ _)).set p s ⟨s,k1,l1,h1,map_eq _ _ _ _ _,g2,g3⟩,rfl,by unfold Rl;rfl,fun q _=>aV.set hl rfl⟩
    ·cases h
   ·cases h
  ·cases h
 ·cases h
omit hR in
theorem aH.at (h:aH ρ b st fr σ) {d:Nat} (hd:d<F0):(fr.d,d)=ρ.om.lc d:=by rw[h.d,Cx.afY _ hd]
omit hR in
theorem aH.XP (h:aH ρ b st fr σ) {x:Option Nat} (hd:∀d,x=some d→d<F0):(x.map fun t=>(fr.d,t))=x.map fun t=>ρ.om.lc t:=by
 cases x with
 |none=>rfl
 |some d=>exact congrArg some (h.at (hd d rfl))
theorem XQ {d s:Nat} {cs:List (TV R.T)} {l:List V} (hi:aH ρ b st fr σ) (hc:aB R ρ σ.top cs l) (hm:kR d cs=false):aH (ρ.jZ d s) b (st.new d (.cells cs)) fr (σ.setObj (ρ.om.lc d) s (.cells l)):=
 hi.new d s ⟨s,l,pX,qX _ _ _ _,aB.kill d zI rfl rfl cs l hm hc⟩
theorem XR {d s:Nat} {ss:List Sg} (hi:aH ρ b st fr σ):aH (ρ.jZ d s) b (st.new d (.sg ss)) fr (σ.setObj (ρ.om.lc d) s (.cells (bH ss))):=
 hi.new d s ⟨s,pX,qX _ _ _ _⟩
theorem PD {g:Nat} {cs:List V} (h:E.glob g=some cs):fr.ev E (.global g)= .aI cs 0:=by
 show (match E.glob g with|some cs=>V.aI cs 0|none=>V.raw (Value.pointer (some ⟨g,0,none⟩)))=_
 rw[h]
theorem ahd {g:List (Nat×Bool)} (dX:∀d,o.dst=some d→d<F0) (hg:mV fr g) (hi:aH ρ aD st fr σ) {r:dG R} (h:nO E R g o.dst o.op st=some r):pY E st ρ aD fr σ o r:=by
 unfold nO at h
 split at h
 ·
  rename_i t hop
  split at h
  ·rename_i d ks cs hd hks hz
   obtain⟨hc,h⟩:=dA h
   cases h
   obtain⟨v,hv,hr⟩:=zM (ρ:=ρ) (top:=σ.top) hz
   obtain⟨l,rfl,hl⟩:=hr.jA
   have hl2:=ag7 hc hl
   refine⟨.ref (ρ.om.lc d) aD 0,_,ρ.jZ d aD,.gL (o:=o) ?_,XR hR (ss:=ks.map Ij) (hi.le (Nat.le_succ _)),rfl,by unfold Rl;exact⟨aD,pX,rfl⟩,fun q hq=>aV.new (fun e=>hq (by rw[hd,e]))⟩
   simp only[aX,hop,hd,Option.map_some,Option.bind_some,hv,V.cells,hl2,Df,if_true,hi.at (dX _ hd)]
  ·cases h
 ·
  rename_i t x hop
  cases hz:E.qQ t
  case true=>rw[hz] at h;cases h
  rw[hz,cond_false] at h
  split at h
  ·rename_i d ks v hd hks hv
   split at h
   ·rename_i ss hss
    cases h
    obtain⟨c1,c2,c3⟩:=XG hss (aY (E:=E) hi hg hv)
    refine⟨.ref (ρ.om.lc d) aD 0,_,ρ.jZ d aD,.gL (o:=o) ?_,XR hR (ss:=ss) (hi.le (Nat.le_succ _)),rfl,by unfold Rl;exact⟨aD,pX,rfl⟩,fun q hq=>aV.new (fun e=>hq (by rw[hd,e]))⟩
    simp only[aX,hop,hz,Bool.false_eq_true,if_false,hd,Option.map_some,Option.bind_some,c1,c3,Df,and_self,if_true,hi.at (dX _ hd)]
   ·cases h
  ·cases h
 ·
  rename_i t a hop
  split at h
  ·rename_i gl
   split at h
   ·rename_i k n v hv
    cases h
    obtain⟨cs,e,g1,g2,g3,g4,g5,g6⟩:=Py hv
    refine .tt (y:=.agg (v.l.map (V.int k))) ?_ ?_
    ·simp only[aX,hop,PD hR g1]
     unfold dJ;rw[g4,g5];simp only[Option.bind_some]
     unfold lM
     rw[if_pos rfl,if_pos (by rw[g2,List.length_map,v.h];omega),List.drop_zero,List.take_of_length_le (by rw[g2,List.length_map,v.h];exact Nat.le_refl _),g2];rfl
    ·unfold Rl;show _=V.agg (v.l.map (V.int k)++[]);rw[List.append_nil]
   ·cases h
  ·split at h
   ·rename_i p off hv
    split at h
    ·rename_i ss hl
     split at h
     ·rename_i v hld
      cases h
      obtain⟨s,h1,h2⟩:=(aY (E:=E) hi hg hv).mR
      obtain⟨s',h3,h4⟩:=hi.rd hl
      rw[h1] at h3;cases h3
      obtain⟨y,hy,hr⟩:=XD (ρ:=ρ) (top:=σ.top) hld
      exact .tt (by simp only[aX,hop,h2,h4,Option.bind_some,hy,Option.map_some]) hr
     ·cases h
    ·cases h
   ·rename_i p off k n i m hv
    split at h
    ·rename_i ss hl
     obtain⟨s,h1,hi0,hi1,h2⟩:=(aY (E:=E) hi hg hv).CS
     obtain⟨s',h3,h4⟩:=hi.rd hl
     rw[h1] at h3;cases h3
     split at h
     ·rename_i pre k' n' v post hsp
      by_cases ek:k'=k
      ·subst ek
       rw[if_pos rfl] at h
       cases hb:Nat.beq n' n
       ·rw[hb] at h;cases h
       rw[hb,cond_true] at h
       have:=dI hb;subst this
       cases hc:(Nat.beq m 1&& oK E t)
       ·rw[hc,cond_false] at h
        split at h
        ·rename_i y hy
         cases h
         obtain⟨x,g1,g2⟩:=ag5 (ρ:=ρ) (top:=σ.top) hsp hi1 hy
         exact .tt (by simp only[aX,hop,h2,h4,Option.bind_some,g1,Option.map_some]) g2
        ·cases h
       ·rw[hc,cond_true] at h
        cases h
        rw[Bool.and_eq_true] at hc
        have:=dI hc.1;subst this
        exact .tt (y:=.int k' (v.at' i)) (by simp only[aX,hop,h2,h4,Option.bind_some,XF (i:=i) hsp (Nat.lt_of_lt_of_le (Nat.lt_succ_self _) hi1) hc.2,Option.map_some]) (by unfold Rl;rfl)
      ·rw[if_neg ek] at h;cases h
     ·cases h
    ·cases h
   ·rename_i k n v i hv
    obtain⟨he,h⟩:=dA h
    cases h
    obtain⟨h1,h2,h3⟩:=(aY (E:=E) hi hg hv).IB
    obtain⟨z1,z2⟩:=xg he
    refine .tt (y:=.int k (v.at' i)) ?_ (by unfold Rl;rfl)
    simp only[aX,hop,h3]
    unfold dJ;rw[z1,z2];simp only[Option.bind_some]
    unfold lM;simp only[Bool.false_eq_true,if_false]
    rw[List.getElem?_map,XE v (by omega)];rfl
   ·cases h
 ·
  rename_i t a x hop
  split at h
  ·rename_i p off v hv hx
   split at h
   ·rename_i ss sz hl hsz
    split at h
    ·rename_i pre rest hsp
     split at h
     ·rename_i mid post hsp2
      split at h
      ·rename_i mid' hco
       cases h
       obtain⟨s,h1,h2⟩:=(aY (E:=E) hi hg hv).mR
       obtain⟨s',h3,h4⟩:=hi.ob _ _ hl
       rw[h1] at h3;cases h3
       obtain⟨c1,c2,c3⟩:=XG hco (aY (E:=E) hi hg hx)
       obtain⟨e1,w1⟩:=qK hsp
       obtain⟨e2,w2⟩:=qK hsp2
       rw[Ja,w2] at c2
       refine⟨aC,_,ρ,.gL (o:=o) ?_,(hi.le (Nat.le_succ _)).set p s (x:=.sg (pre++(mid'++post))) (a:=.cells (bH (pre++(mid'++post)))) ⟨s,h1,qX _ _ _ _⟩,rfl,by unfold Rl;rfl,fun q _=>aV.set hl rfl⟩
       simp only[aX,hop,h2,h4,Option.bind_some,c1]
       rw[if_pos ⟨by rw[hsz,fD,c2],by rw[fD,fD,e1,e2,vE,vE,w1,w2,c2];omega,Df _⟩,e1,e2,ag8 w1 w2 c2]
      ·cases h
     ·cases h
    ·cases h
   ·cases h
  ·rename_i p off k n i m k' y hv hx
   split at h
   ·rename_i ss hl
    split at h
    ·rename_i pre k2 n' v post hsp
     by_cases ek:k2=k
     ·subst ek
      rw[if_pos rfl] at h
      by_cases XT:k'=k2
      ·subst XT
       rw[if_pos rfl] at h
       obtain⟨hb,h⟩:=dA h
       cases h
       rw[Bool.and_eq_true,Bool.and_eq_true] at hb
       have e1:=dI hb.1.1;subst e1
       have e2:=dI hb.1.2;subst e2
       obtain⟨z1,z2⟩:=xg hb.2
       obtain⟨s,h1,hi0,hi1,h2⟩:=(aY (E:=E) hi hg hv).CS
       obtain⟨s',h3,h4⟩:=hi.ob _ _ hl
       rw[h1] at h3;cases h3
       have hy:=(aY (E:=E) hi hg hx).fq
       obtain⟨e1,w1⟩:=qK hsp
       refine⟨aC,_,ρ,.gL (o:=o) ?_,(hi.le (Nat.le_succ _)).set p s (x:=.sg (pre++(.a k' n' (v.set i y)::post))) (a:=.cells (bH (pre++(.a k' n' (v.set i y)::post)))) ⟨s,h1,qX _ _ _ _⟩,rfl,by unfold Rl;rfl,fun q _=>aV.set hl rfl⟩
       simp only[aX,hop,h2,h4,Option.bind_some,hy,V.cells]
       have ahe:=XH (post:=post) (k:=k') (v:=v) (w:=v.set i y) (l:=[y]) w1 (show i.toNat+[y].length≤n' from hi1) (ag9 (by rw[v.h];omega))
       rw[if_pos ⟨by rw[z1];rfl,by rw[fD,e1,vE,w1,I9];show off+i.toNat+1≤off+(n'+_);omega,rfl⟩,e1]
       rw[show [V.int k' y]=[y].map (V.int k') from rfl,ahe]
      ·rw[if_neg XT] at h;cases h
     ·rw[if_neg ek] at h;cases h
    ·cases h
   ·cases h
  ·cases h
 ·
  rename_i t x i hop
  split at h
  ·rename_i n e k0 i ha hiv
   obtain⟨hel,h⟩:=dA h
   obtain⟨z1,z2⟩:=xg hel
   have hii:=(aY (E:=E) hi hg hiv).fq
   split at h
   ·rename_i gl
    split at h
    ·rename_i k n' v hv
     cases h
     intro hin
     obtain⟨cs,e',g1,g2,g3,g4,g5,g6⟩:=Py hv
     rw[ha] at g3;cases g3
     obtain⟨j1,j2,j3⟩:=Jb hin
     refine⟨.aI cs i.toNat,.gL ?_,by unfold Rl;exact⟨j1,j2,by rw[g2]⟩⟩
     simp only[aX,hop,PD hR g1,hii]
     unfold kZ
     rw[I7 ha];dsimp only
     rw[z1];simp only[Option.bind_some,Pz hin,Option.map_some,Nat.mul_one,Nat.zero_add]
    ·cases h
   ·split at h
    ·rename_i p off hv
     split at h
     ·rename_i ss hl
      split at h
      ·rename_i pre k n' v post hsp
       obtain⟨hb,h⟩:=dA h
       have:=dI hb;subst this
       cases h
       intro hin
       obtain⟨s,h1,h2⟩:=(aY (E:=E) hi hg hv).mR
       obtain⟨j1,j2,j3⟩:=Jb hin
       refine⟨.ref (ρ.om.lc p) s (off+i.toNat),.gL ?_,by unfold Rl;exact⟨s,h1,j1,by omega,rfl⟩⟩
       simp only[aX,hop,h2,hii]
       unfold kZ
       rw[I7 ha];dsimp only
       rw[z1];simp only[Option.bind_some,Pz hin,Option.map_some,Nat.mul_one]
      ·cases h
     ·cases h
    ·cases h
  ·cases h
 ·
  rename_i t x i hop
  split at h
  ·rename_i n e k n' v k0 i ha hv hiv
   obtain⟨hb,h⟩:=dA h
   cases h
   rw[Bool.and_eq_true] at hb
   have:=dI hb.2;subst this
   obtain⟨z1,z2⟩:=xg hb.1
   have hii:=(aY (E:=E) hi hg hiv).fq
   have hvv:=(aY (E:=E) hi hg hv).CQ
   intro hin
   obtain⟨j1,j2,j3⟩:=Jb hin
   refine⟨.int k (v.at' i),.gL ?_,by unfold Rl;rfl⟩
   simp only[aX,hop,hvv,hii]
   unfold rZ
   rw[I7 ha];dsimp only
   rw[Pz hin];simp only[Option.bind_some,z1,Nat.mul_one]
   have:=XF (E:=E) (t:=e) (ss:=[.a k n' v]) (pre:=[]) (post:=[]) (off:=0) (i:=i) rfl j3 hb.1
   rw[Nat.zero_add] at this
   rw[this];rfl
  ·cases h
 ·
  rename_i t x lo hi' hop
  split at h
  ·rename_i v hv
   have jU:=aY (E:=E) hi hg hv
   have ho:∀vl vh,fQ E fr lo=vl→fQ E fr hi'=vh→∀y,ko E.P σ t (fr.ev E x) vl vh none=some y→aX E fr σ aD o=some (y,σ):=by
    rintro vl vh rfl rfl y hy
    simp only[aX,hop]
    rw[show fQ E fr none=none from rfl,hy];rfl
   split at h
   ·exact .val (Jd h jU hi (vl:=none) (vh:=none) (by intro y hy;cases hy) (fun _=>rfl) (by intro y hy;cases hy) (fun _=>rfl)) (ho _ _ rfl rfl)
   ·rename_i lo
    split at h
    ·rename_i l hl
     have hlr:=aY (E:=E) hi hg hl
     exact .val (Jd h jU hi (vl:=some (fr.ev E lo)) (vh:=none) (by intro y hy;cases hy;exact⟨_,rfl,hlr⟩) (by intro hy;cases hy) (by intro y hy;cases hy) (fun _=>rfl)) (ho _ _ rfl rfl)
    ·cases h
   ·rename_i hi'
    split at h
    ·rename_i l hl
     have hlr:=aY (E:=E) hi hg hl
     exact .val (Jd h jU hi (vl:=none) (vh:=some (fr.ev E hi')) (by intro y hy;cases hy) (fun _=>rfl) (by intro y hy;cases hy;exact⟨_,rfl,hlr⟩) (by intro hy;cases hy)) (ho _ _ rfl rfl)
    ·cases h
   ·rename_i lo hi'
    split at h
    ·rename_i l m hl hm
     have hlr:=aY (E:=E) hi hg hl
     have hmr:=aY (E:=E) hi hg hm
     exact .val (Jd h jU hi (vl:=some (fr.ev E lo)) (vh:=some (fr.ev E hi')) (by intro y hy;cases hy;exact⟨_,rfl,hlr⟩) (by intro hy;cases hy) (by intro y hy;cases hy;exact⟨_,rfl,hmr⟩) (by intro hy;cases hy)) (ho _ _ rfl rfl)
    ·cases h
  ·cases h
 ·
  rename_i t x lo hi' mx hop
  split at h
  ·rename_i cp u l kh hh Je km e hv hvh hvm hu
   split at h
   ·rename_i sz hsz
    cases hb:Nat.beq sz (bW R u)
    ·rw[hb] at h;cases h
    rw[hb,cond_true] at h
    have:=dI hb;subst this
    obtain⟨c',h2,_⟩:=(aY (E:=E) hi hg hv).jO
    have eh:=(aY (E:=E) hi hg hvh).fq
    have em:=(aY (E:=E) hi hg hvm).fq
    have fin:∀(vl:Option V) (a:Nat) (L:List (Den R.T u)),fQ E fr lo=vl→iY l.length l.length vl (some (.int kh hh)) (some (.int Je km))=some (a,hh.toNat,km.toNat)→(l.take hh.toNat).drop a=L→∃y,j4 E fr σ aD o y σ∧Rl R ρ σ.top (.aj .any u L) y:=by
     rintro vl a L hvl hsb rfl
     refine⟨.aj (if km.toNat=hh.toNat then .full else .sh) (((l.map (aG R u)).take hh.toNat).drop a),.gL ?_, ?_⟩
     ·simp only[aX,hop,h2]
      rw[hvl,show fQ E fr (some hi')=some (.int kh hh) by rw[Dh,eh],show fQ E fr (some mx)=some (.int Je km) by rw[Dh,em]]
      unfold ko
      rw[hu];dsimp only
      rw[hsz];simp only[Option.bind_some,List.length_map,hsb,C8 hR,if_true,Option.isNone_some,Bool.false_eq_true,and_false,if_false,Option.map_some]
     ·unfold Rl
      exact⟨_,by rw[O8],trivial⟩
    split at h
    ·cases hf:V4 E o.dst with
     |false=>
      rw[hf,cond_false] at h
      cases h
      intro hc
      rw[Bool.and_eq_true] at hc
      exact fin none 0 _ rfl (by simp[iY,oN hc.1,oN hc.2]) (by simp[nN])
     |true=>
      rw[hf,cond_true] at h
      cases h
      intro hc
      rw[Bool.and_eq_true,Bool.and_eq_true] at hc
      obtain⟨y,hy1,hy2⟩:=fin none 0 _ rfl (by simp[iY,oN hc.1,oN hc.2.1]) rfl
      have hkm:hh=km:=by simpa using hc.2.2
      subst hkm
      refine⟨.aj .full (((l.map (aG R u)).take hh.toNat).drop 0),.gL ?_, ?_⟩
      ·simp only[aX,hop,h2]
       rw[show fQ E fr none=none from rfl,show fQ E fr (some hi')=some (.int kh hh) by rw[Dh,eh],show fQ E fr (some mx)=some (.int Je hh) by rw[Dh,em]]
       unfold ko
       rw[hu];dsimp only
       have hsb:iY l.length l.length none (some (.int kh hh)) (some (.int Je hh))=some (0,hh.toNat,hh.toNat):=by simp[iY,oN hc.1,oN hc.2.1]
       rw[hsz];simp only[Option.bind_some,List.length_map,hsb,C8 hR,if_true,Option.isNone_some,Bool.false_eq_true,and_false,if_false,Option.map_some]
      ·unfold Rl
       exact⟨.full,by rw[O8];simp[nN],rfl⟩
    ·rename_i lo'
     split at h
     ·rename_i ka a hva
      cases h
      intro hc
      rw[Bool.and_eq_true,Bool.and_eq_true] at hc
      have ea:=(aY (E:=E) hi hg hva).fq
      exact fin (some (.int ka a)) a.toNat _ (by rw[Dh,ea]) (by simp[iY,oN hc.1,oN hc.2.1,oN hc.2.2]) (by simp[nN])
     ·cases h
   ·cases h
  ·cases h
 ·
  rename_i a b' x hop
  split at h
  ·rename_i p off k n lo hi' hv
   obtain⟨s,h1,hB,h2⟩:=(aY (E:=E) hi hg hv).vo
   split at h
   ·rename_i e hu1 hu2
    split at h
    ·rename_i hu3
     split at h
     ·rename_i l hl
      cases h
      obtain⟨cs,c1,c2,c3,c4⟩:=Xu hR hi hl h1 hB
      obtain⟨p1,p2,p3,_,_⟩:=w9 hB
      refine .tt (y:=.str (List.map (fun n:Int=>UInt8.ofNat n.toNat) l)) ?_ (by unfold Rl;rfl)
      simp only[aX,hop,h2]
      unfold rY
      rw[hu1,hu2];dsimp only
      rw[hu3,c1];dsimp only
      simp only[Option.bind_some]
      rw[if_pos (by omega),c3]
      have:=O7 (R:=R) l
      rw[show l.map (V.int .u8)=List.map (aG R (.int .u8)) l from rfl,this];rfl
     ·cases h
    ·cases h
   ·cases h
  ·cases h
 ·
  rename_i t x hop
  split at h
  ·rename_i m e p off k n lo hi' ha hv
   cases h
   intro hc
   have hc:=of_decide_eq_true hc
   obtain⟨s,h1,hB,h2⟩:=(aY (E:=E) hi hg hv).vo
   obtain⟨p1,p2,p3,p4,p5⟩:=w9 hB
   refine⟨.ref (ρ.om.lc p) s (off+(dx lo).toNat),.gL ?_,by unfold Rl;exact⟨s,h1,p4,by omega,rfl⟩⟩
   simp only[aX,hop,ha,h2,Option.bind_some]
   rw[if_pos ⟨hc.1,by omega⟩]
  ·cases h
 ·
  rename_i c hop
  split at h
  ·rename_i p off k n lo hi' y eU hvs
   split at h
   ·rename_i t ht
    split at h
    ·rename_i e he
     obtain⟨hel,h⟩:=dA h
     obtain⟨z1,z2⟩:=xg hel
     split at h
     ·rename_i l0 ss hsrc hl
      obtain⟨l,hl0⟩:∃l:List Int,l=l0:=⟨l0,rfl⟩
      subst hl0
      split at h
      ·rename_i pre k' n' v post hsp
       by_cases ek:k'=k
       ·subst ek
        rw[if_pos rfl] at h
        cases hb:Nat.beq n' n
        ·rw[hb] at h;cases h
        rw[hb,cond_true] at h
        have:=dI hb;subst this
        cases h
        have hargs:=sU (E:=E) hi hg hvs
        obtain⟨a1,as1,ea1,ra1,ra2⟩:=hargs.dH
        obtain⟨a2,as2,ea2,rb1,rb2⟩:=ra2.dH
        have ea3:=rb2.eH
        subst ea3;subst ea2
        obtain⟨s,h1,hB,rfl⟩:=ra1.vo
        obtain⟨p1,p2,p3,p4,p5⟩:=w9 hB
        obtain⟨s',h3,h4⟩:=hi.ob _ _ hl
        rw[h1] at h3;cases h3
        obtain⟨e1,w1⟩:=qK hsp
        obtain⟨q1,q2⟩:=Pf hR (σ:=σ) (ag:=false) (z:=aC) hsrc rb1
        have q1:jo σ false 1 aC a2=some (List.map (V.int k') l):=q1
        have hlen:(eY n' hi'-dx lo).toNat=(eY n' hi').toNat-(dx lo).toNat:=by omega
        have hmin:min (List.map (V.int k') l).length ((eY n' hi').toNat-(dx lo).toNat)=(List.take (eY n' hi'-dx lo).toNat l).length:=by
         rw[List.length_map,List.length_take,hlen,Nat.min_comm]
        have hfl:((List.map (V.int k') l).take (List.take (eY n' hi'-dx lo).toNat l).length).flatMap V.cells=(List.take (eY n' hi'-dx lo).toNat l).map (V.int k'):=by
         have:∀m:List Int,(m.map (V.int k')).flatMap V.cells=m.map (V.int k'):=by
          intro m
          induction m with
          |nil=>rfl
          |cons x m ih=>rw[List.map_cons,List.flatMap_cons,ih];rfl
         rw[←List.map_take,this,List.length_take]
         congr 1
         by_cases hle:(eY n' hi'-dx lo).toNat≤List.length l
         ·rw[Nat.min_eq_left hle]
         ·rw[Nat.min_eq_right (by omega),List.take_of_length_le (Nat.le_refl _),List.take_of_length_le (by omega)]
        have hlt:(List.take (eY n' hi'-dx lo).toNat l).length≤(eY n' hi').toNat-(dx lo).toNat:=by rw[List.length_take,hlen];exact Nat.min_le_left _ _
        have hone:(List.map (V.int k') l).all (fun v=>bf v.cells)=true:=by rw[List.all_map];simp[bf,V.cells,oneCell]
        refine⟨_,_,ρ,.of (o:=o) fun S=> ?_,(hi.le (Nat.le_succ _)).set p s (x:=.sg (pre++(.a k' n' (v.pK (dx lo) (List.take (eY n' hi'-dx lo).toNat l))::post))) (a:=.cells (bH (pre++(.a k' n' (v.pK (dx lo) (List.take (eY n' hi'-dx lo).toNat l))::post)))) ⟨s,h1,qX _ _ _ _⟩,rfl,by unfold Rl;rfl,fun q _=>aV.set hl rfl⟩
        unfold opC
        rw[hop];dsimp only
        rw[eU];dsimp only
        rw[ea1]
        have hbv:lQ E fr.om (o.dst.map fun t=>(fr.d,t)) σ aD .copy c.argTypes [.vw (ρ.om.lc p) s (off+(dx lo).toNat) ((eY n' hi').toNat-(dx lo).toNat) (n'-(dx lo).toNat) 1 false,a2]=(c.argTypes[0]?).bind fun t=>copyV E.P σ t (.vw (ρ.om.lc p) s (off+(dx lo).toNat) ((eY n' hi').toNat-(dx lo).toNat) (n'-(dx lo).toNat) 1 false) a2:=rfl
        rw[hbv,ht];simp only[Option.bind_some]
        rw[ahb he z1 z2 q2 q1 hone h4 (by rw[hmin,fD,e1,vE,w1,I9];show off+(dx lo).toNat+_≤off+(n'+_);omega),hmin,hfl]
        simp only[Option.map_some]
        rw[e1,XH (w:=v.pK (dx lo) (List.take (eY n' hi'-dx lo).toNat l)) w1 (by omega) (by unfold Vec.pK;rw[Dc];simp only[List.length_append,List.length_take,List.length_drop,v.h] at*;omega)]
        try rfl
       ·rw[if_neg ek] at h;cases h
      ·cases h
     ·cases h
    ·cases h
   ·cases h
  ·cases h
 ·cases h
theorem aho {om:Bool} {F:Nat→List (FR R)} (hF:aW E F) (bg:ρ.om.om=om) (dX:∀d,o.dst=some d→d<F0) {g:List (Nat×Bool)} (hg:mV fr g) (hi:aH ρ aD st fr σ) {r:dG R} (h:oL E R om F g o.dst o.op st=some r):pY E st ρ aD fr σ o r:=by
 unfold oL at h
 split at h
 ·
  rename_i x hop
  split at h
  ·rename_i v hv;cases h;exact .tt (y:=fr.ev E x) (by simp only[aX,hop]) (aY hi hg hv)
  ·cases h
 ·rename_i x hop
  split at h
  ·rename_i v hv;cases h;exact .tt (y:=fr.ev E x) (by simp only[aX,hop]) (aY hi hg hv)
  ·cases h
 ·
  rename_i c a' b' hop
  split at h
  ·rename_i j
   split at h
   ·rename_i t hc
    have hc':=(aY (E:=E) hi hg hc).oM
    split at h
    ·rename_i x y hx hy
     split at h
     ·rename_i v hv
      cases h
      refine .tt (zR hop hc') ?_
      rw[yJ] at hc'
      cases t
      ·exact XJ hv (aY (E:=E) hi (.cons hc' hg) hy)
      ·exact XI hv (aY (E:=E) hi (.cons hc' hg) hx)
     ·cases h
    ·cases h
   ·rename_i t hc
    have hc':=(aY (E:=E) hi hg hc).qI
    split at h
    ·rename_i v hv
     cases h
     refine .tt (zR hop hc') ?_
     cases t
     ·exact aY (E:=E) hi hg hv
     ·exact aY (E:=E) hi hg hv
    ·cases h
   ·cases h
  ·cases h
 ·
  rename_i t hop
  split at h
  ·rename_i d z hd hz
   obtain⟨hc,h⟩:=dA h
   cases h
   simp only[Bool.and_eq_true,Bool.not_eq_true'] at hc
   obtain⟨v,hv,hr⟩:=zM (ρ:=ρ) (top:=σ.top) hz
   have hng:uU z=true:=by
    cases z<;>first|rfl| (have:=hc.1;simp[TV.cells,uT,N9] at this)
   obtain⟨hcells,_⟩:=rF hng hr
   refine⟨.ref (ρ.om.lc d) aD 0,_,ρ.jZ d aD,.gL (o:=o) ?_,XQ hR (hi.le (Nat.le_succ _)) hcells hc.2,rfl,by unfold Rl;exact⟨aD,pX,rfl⟩,fun q hq=>aV.new (fun e=>hq (by rw[hd,e]))⟩
   simp only[aX,hop,hd,Option.map_some,Option.bind_some,hv,CZ hc.1 hcells,if_true,hi.at (dX _ hd)]
  ·cases h
 ·
  rename_i t x hop
  cases hz:E.qQ t with
  |true=>
   rw[hz,cond_true] at h
   split at h
   ·rename_i v hv
    obtain⟨hc,h⟩:=dA h
    cases h
    rw[Bool.and_eq_true] at hc
    have hr:=aY (E:=E) hi hg hv
    obtain⟨hcells,hnr⟩:=rF hc.2 hr
    refine .tt (y:=.aI (fr.ev E x).cells 0) ?_ ?_
    ·simp only[aX,hop,hz,if_true,I6 hR _ _ hc.1 hr,hnr,and_self]
    ·unfold Rl;exact⟨_,rfl,hcells⟩
   ·cases h
  |false=>
  rw[hz,cond_false] at h
  split at h
  ·rename_i d v hd hv
   obtain⟨hc,h⟩:=dA h
   cases h
   simp only[Bool.and_eq_true,Bool.not_eq_true'] at hc
   have hr:=aY (E:=E) hi hg hv
   obtain⟨hcells,hnr⟩:=rF hc.1.2 hr
   refine⟨.ref (ρ.om.lc d) aD 0,_,ρ.jZ d aD,.gL (o:=o) ?_,XQ hR (hi.le (Nat.le_succ _)) hcells hc.2,rfl,by unfold Rl;exact⟨aD,pX,rfl⟩,fun q hq=>aV.new (fun e=>hq (by rw[hd,e]))⟩
   simp only[aX,hop,hz,Bool.false_eq_true,if_false,hd,Option.map_some,Option.bind_some,CZ hc.1.1 hcells,hnr,and_self,if_true,hi.at (dX _ hd)]
  ·cases h
 ·
  rename_i t parts hop
  split at h
  ·rename_i pl z ps hpl hz hps
   split at h
   ·rename_i cs hcs
    cases h
    obtain⟨zv,hzv,Pb⟩:=zM (ρ:=ρ) (top:=σ.top) hz
    obtain⟨e1,e2⟩:=OQ (E:=E) hi hg hps
    have hzc:aB R ρ σ.top z.cells zv.cells:=by
     refine(rF ?_ Pb).1
     unfold sK at hz
     cases z<;>first|rfl|skip
     all_goals
      exfalso
      split at hz
      ·split at hz
       ·unfold yR at hz
        split at hz
        ·split at hz<;>cases hz
        ·unfold wJ at hz;split at hz<;>cases hz
       ·cases hz
      ·cases hz
    obtain⟨l',f1,f2⟩:=WU (qs:=parts.toList.map fun p=>(p.1,fr.ev E p.2)) pl (by rw[e1];simp[Function.comp_def]) (by simpa [Function.comp_def] using e2) hzc hcs
    refine .tt (y:=.agg l') ?_ (by unfold Rl;exact⟨l',rfl,f2⟩)
    simp only[aX,hop,hpl,hzv,Option.bind_some]
    rw[f1];rfl
   ·cases h
  ·cases h
 ·
  rename_i t len parts hop
  split at h
  ·rename_i ps hps
   obtain⟨e1,e2⟩:=OQ (E:=E) hi hg hps
   refine .val (agB hR (qs:=parts.toList.map fun p=>(p.1,fr.ev E p.2)) h (by rw[e1];simp[Function.comp_def]) (by simpa [Function.comp_def] using e2)) fun y hy=> ?_
   simp only[aX,hop]
   rw[hy];rfl
  ·cases h
 ·
  rename_i t a hop
  split at h
  ·rename_i p off hv
   split at h
   ·rename_i cs hl
    split at h
    ·rename_i v hld
     cases h
     obtain⟨s,h1,h2⟩:=(aY (E:=E) hi hg hv).mR
     obtain⟨s',l,h3,h4,h5⟩:=hi.rd hl
     rw[h1] at h3;cases h3
     obtain⟨y,hy,hr⟩:=tq h5 hld
     exact .tt (by simp only[aX,hop,h2,h4,Option.bind_some,hy,Option.map_some]) hr
    ·cases h
   ·cases h
  ·rename_i cs off hv
   split at h
   ·rename_i v hld
    cases h
    obtain⟨l,h2,h5⟩:=(aY (E:=E) hi hg hv).rE
    obtain⟨y,hy,hr⟩:=tq h5 hld
    exact .tt (by simp only[aX,hop,h2,hy,Option.map_some]) hr
   ·cases h
  ·rename_i p τ i off hv
   split at h
   ·rename_i ob hl
    obtain⟨s,h1,_,h2⟩:=(aY (E:=E) hi hg hv).wV
    obtain⟨l,f,rfl,hf⟩:=agJ h (hi.rd hl) h1
    intro y hy
    obtain⟨cs,w,h3,h4,h5⟩:=hf y hy
    exact⟨w,.gL (by simp only[aX,hop,h2,h3,Option.bind_some,h4,Option.map_some]),h5⟩
   ·cases h
  ·cases h
 ·
  rename_i t a x hop
  split at h
  ·rename_i p off v hv hx
   split at h
   ·rename_i cs sz hl hsz
    obtain⟨hc,h⟩:=dA h
    cases h
    simp only[Bool.and_eq_true] at hc
    obtain⟨⟨⟨c1,c2⟩,c3⟩,c4⟩:=hc
    obtain⟨s,h1,h2⟩:=(aY (E:=E) hi hg hv).mR
    obtain⟨s',l,h3,h4,h5⟩:=hi.ob _ _ hl
    rw[h1] at h3;cases h3
    obtain⟨h6,h7⟩:=rF c4 (aY (E:=E) hi hg hx)
    refine⟨aC,_,ρ,.gL (o:=o) ?_,(hi.le (Nat.le_succ _)).set p s ⟨s,_,h1,qX _ _ _ _,O5 off h5 h6⟩,rfl,by unfold Rl;rfl,fun q _=>aV.set hl rfl⟩
    simp only[aX,hop,h2,h4,Option.bind_some]
    rw[if_pos ⟨by rw[hsz,h6.length,dI c1],by rw[h6.length,h5.length];exact Nat.le_of_ble_eq_true c2,CZ c3 h6⟩]
   ·cases h
  ·cases h
 ·
  rename_i x hop
  split at h
  ·rename_i p off hv;cases h
   have hr:=aY (E:=E) hi hg hv
   obtain⟨s,h1,h2⟩:=hr.mR
   exact .tt (y:=fr.ev E x) (by simp only[aX,hop,h2]) hr
  ·rename_i p off hv;cases h
   have hr:=aY (E:=E) hi hg hv
   obtain⟨s,h2,h1⟩:=hr.rE
   exact .tt (y:=fr.ev E x) (by simp only[aX,hop,h2]) hr
  ·rename_i p τ i off hv;cases h
   have hr:=aY (E:=E) hi hg hv
   obtain⟨s,h1,_,h2⟩:=hr.wV
   exact .tt (y:=fr.ev E x) (by simp only[aX,hop,h2]) hr
  ·rename_i f a' b' hv;cases h
   have hr:=aY (E:=E) hi hg hv
   obtain⟨a',b',h2,h1⟩:=hr.l5
   exact .tt (y:=fr.ev E x) (by simp only[aX,hop,h2]) hr
  ·cases h
 ·
  rename_i op t x y t' hop
  split at h
  ·rename_i x' y' hx hy
   exact .val (agv h (aY (E:=E) hi hg hx) (aY (E:=E) hi hg hy)) fun z hz=>by simp only[aX,hop,hz,Option.map_some]
  ·cases h
 ·
  rename_i op t x hop
  split at h
  ·rename_i x' hx
   exact .val (agw h (aY (E:=E) hi hg hx)) fun z hz=>by simp only[aX,hop,hz,Option.map_some]
  ·cases h
 ·
  rename_i a' b' x hop
  split at h
  ·rename_i x' hx
   exact .val (agx (σ:=σ) h (aY (E:=E) hi hg hx)) fun z hz=>by simp only[aX,hop,hz,Option.map_some]
  ·cases h
 ·
  rename_i f a' b' hop
  split at h
  ·rename_i xs ys hx hy
   cases h
   exact .tt (y:=.fn (.func f) (a'.toList.map (fr.ev E)) (b'.toList.map (fr.ev E))) (by simp only[aX,hop]) (by unfold Rl;exact⟨_,_,rfl,sU (E:=E) hi hg hx,sU (E:=E) hi hg hy⟩)
  ·cases h
 ·
  rename_i t hop
  split at h
  ·rename_i d k e hd ht
   split at h
   ·rename_i k' e' hk he
    cases h
    refine⟨.bN (ρ.om.lc d) aD,_,ρ.jZ d aD,.gL (o:=o) ?_,(hi.le (Nat.le_succ _)).new d aD (a:=.map [] []) ⟨aD,pX,map_eq σ (ρ.om.lc d) aD [] []⟩,rfl,by unfold Rl;exact⟨aD,pX,rfl⟩,fun q hq=>aV.new (fun e=>hq (by rw[hd,e]))⟩
    simp only[aX,hop,hd,Option.map_some,hi.at (dX _ hd)]
   ·cases h
    refine⟨.bN (ρ.om.lc d) aD,_,ρ.jZ d aD,.gL (o:=o) ?_,(hi.le (Nat.le_succ _)).new d aD (a:=.map [] []) ⟨aD,[],[],pX,map_eq σ (ρ.om.lc d) aD [] [],rfl,rfl⟩,rfl,by unfold Rl;exact⟨aD,pX,rfl⟩,fun q hq=>aV.new (fun e=>hq (by rw[hd,e]))⟩
    simp only[aX,hop,hd,Option.map_some,hi.at (dX _ hd)]
  ·cases h
 ·
  rename_i t l c hop
  split at h
  ·rename_i n m hn hm
   refine agQ hR h (aY (E:=E) hi hg hn) (aY (E:=E) hi hg hm) hi rfl fun y σ' hy=>.gL ?_
   have e:(o.dst.map fun t=>(fr.d,t))=o.dst.map fun t=>(ρ.om.lc t):=hi.XP dX
   simp only[aX,hop]
   rw[e,hi.om,bg];exact hy
  ·cases h
 ·
  rename_i t x lo hi' hop
  split at h
  ·rename_i x' hx
   have jU:=aY (E:=E) hi hg hx
   split at h
   ·exact .val (IQ hR (σ:=σ) (vl:=none) (vh:=none) h jU (fun y hy=>by cases hy) (fun _=>rfl) (fun y hy=>by cases hy) (fun _=>rfl)) fun z hz=>by simp only[aX,hop,fQ,hz,Option.map_some]
   ·rename_i lo
    split at h
    ·rename_i l hl
     exact .val (IQ hR (σ:=σ) (vl:=some (fr.ev E lo)) (vh:=none) h jU (fun y hy=>by cases hy;exact⟨_,rfl,aY (E:=E) hi hg hl⟩) (fun h=>by cases h) (fun y hy=>by cases hy) (fun _=>rfl)) fun z hz=>by simp only[aX,hop,fQ,hz,Option.map_some]
    ·cases h
   ·rename_i hi2
    split at h
    ·rename_i l hl
     exact .val (IQ hR (σ:=σ) (vl:=none) (vh:=some (fr.ev E hi2)) h jU (fun y hy=>by cases hy) (fun _=>rfl) (fun y hy=>by cases hy;exact⟨_,rfl,aY (E:=E) hi hg hl⟩) (fun h=>by cases h)) fun z hz=>by simp only[aX,hop,fQ,hz,Option.map_some]
    ·cases h
   ·rename_i lo hi2
    split at h
    ·rename_i l l2 hl hl2
     exact .val (IQ hR (σ:=σ) (vl:=some (fr.ev E lo)) (vh:=some (fr.ev E hi2)) h jU (fun y hy=>by cases hy;exact⟨_,rfl,aY (E:=E) hi hg hl⟩) (fun h=>by cases h) (fun y hy=>by cases hy;exact⟨_,rfl,aY (E:=E) hi hg hl2⟩) (fun h=>by cases h)) fun z hz=>by simp only[aX,hop,fQ,hz,Option.map_some]
    ·cases h
  ·cases h
 ·
  rename_i t x f hop
  split at h
  ·rename_i x' hx
   have jU:=aY (E:=E) hi hg hx
   split at h
   ·rename_i v hv
    cases h
    unfold VR at hv
    split at hv
    ·rename_i p u hf
     split at hv
     ·rename_i q off
      cases hv
      obtain⟨s,h1,h2⟩:=jU.mR
      exact .tt (y:=.ref (ρ.om.lc q) s (off+p)) (by simp only[aX,hop,hf,Option.bind_some,h2]) (by unfold Rl;exact⟨s,h1,rfl⟩)
     ·rename_i q off
      cases hv
      obtain⟨l,h2,h1⟩:=jU.rE
      exact .tt (y:=.aI l (off+p)) (by simp only[aX,hop,hf,Option.bind_some,h2]) (by unfold Rl;exact⟨l,rfl,h1⟩)
     ·rename_i q τ i off
      cases hv
      obtain⟨s,h1,h3,h2⟩:=jU.wV
      exact .tt (y:=.ref (ρ.om.lc q) s (i.toNat*bW R τ+off+p)) (by simp only[aX,hop,hf,Option.bind_some,h2]) (by unfold Rl;exact⟨s,h1,h3,by rw[Nat.add_assoc]⟩)
     ·cases hv
    ·cases hv
   ·cases h
  ·cases h
 ·
  rename_i t x f hop
  split at h
  ·rename_i p u cs hf hx
   split at h
   ·rename_i v hv
    cases h
    obtain⟨l,h1,h2⟩:=(aY (E:=E) hi hg hx).jA
    obtain⟨y,hy,hr⟩:=tq h2 hv
    exact .tt (by simp only[aX,hop,hf,Option.bind_some,h1,hy,Option.map_some]) hr
   ·cases h
  ·cases h
 ·
  rename_i t x i hop
  split at h
  ·rename_i p τ y' hx hy
   exact .val (agR hR (om:=false) h (aY (E:=E) hi hg hx) (aY (E:=E) hi hg hy) hi) fun z hz=>by simp only[aX,hop,hz,Option.map_some]
  ·rename_i x' y' _ hx hy
   exact .val (ag1 hR h (aY (E:=E) hi hg hx) (aY (E:=E) hi hg hy)) fun z hz=>by simp only[aX,hop,hz,Option.map_some]
  ·cases h
 ·
  rename_i t x i hop
  split at h
  ·rename_i x' y' hx hy
   exact .val (ag2 h (aY (E:=E) hi hg hx) (aY (E:=E) hi hg hy)) fun z hz=>by simp only[aX,hop,hz,Option.map_some]
  ·cases h
 ·
  rename_i t x i ok hop
  split at h
  ·rename_i x' y' hx hy
   exact .val (ahc hR h (aY (E:=E) hi hg hx) (aY (E:=E) hi hg hy) hi) fun z hz=>by simp only[aX,hop,hz,Option.map_some]
  ·cases h
 ·
  rename_i t m k v hop
  split at h
  ·rename_i m' k' v' hm hk hv
   exact XO hR h (aY (E:=E) hi hg hm) (aY (E:=E) hi hg hk) (aY (E:=E) hi hg hv) hi fun σ' hs=>by simp only[aX,hop,hs,Option.map_some]
  ·cases h
 ·rename_i t m k v hop
  split at h
  ·rename_i m' k' v' hm hk hv
   exact XO hR h (aY (E:=E) hi hg hm) (aY (E:=E) hi hg hk) (aY (E:=E) hi hg hv) hi fun σ' hs=>by simp only[aX,hop,hs,Option.map_some]
  ·cases h
 ·
  rename_i x i hop
  split at h
  ·rename_i vs hv
   split at h
   ·rename_i v hx
    cases h
    obtain⟨l,h1,h2⟩:=(aY (E:=E) hi hg hv).Iz
    obtain⟨y,hy,hr⟩:=h2.get hx
    exact .tt (by simp only[aX,hop,h1,hy,Option.map_some]) hr
   ·cases h
  ·cases h
 ·
  rename_i c hop
  split at h
  ·rename_i bi eU
   split at h
   ·rename_i vs hvs
    have hrs:=sU (E:=E) hi hg hvs
    have step:∀y σ',lQ E fr.om (o.dst.map fun t=>(fr.d,t)) σ aD bi c.argTypes (c.args.toList.map (fr.ev E))=some (y,σ')→j4 E fr σ aD o y σ':=fun y σ' hb=>.of fun S=>by
     simp only[opC,hop,eU,hb,Option.map_some]
    unfold blt at h
    split at h
    ·rename_i x
     split at h
     ·rename_i t ht
      split at h
      ·rename_i n hn
       cases h
       obtain⟨v,l,e,h1,h2⟩:=hrs.dH
       rw[h2.eH] at e
       refine⟨_,step _ σ ?_,by unfold Rl;rfl⟩
       rw[e]
       simp only[lQ,ht,Option.bind_some,agE hn h1 hi,Option.map_some]
      ·cases h
     ·cases h
    ·rename_i x y
     split at h
     ·rename_i t u ht hu
      obtain⟨v,l,e,h1,h2⟩:=hrs.dH
      obtain⟨w,l',e',h3,h4⟩:=h2.dH
      subst e'
      rw[h4.eH] at e
      have e0:(o.dst.map fun t=>(fr.d,t))=o.dst.map fun t=>(ρ.om.lc t):=hi.XP dX
      have fin:zf E u=true→∀z σ',gy E.P om false σ aD (o.dst.map fun t=>(ρ.om.lc t)) t v w=some (z,σ')→j4 E fr σ aD o z σ':=fun hss z σ' hz=>step z σ' (by
       rw[e,e0]
       unfold zf at hss
       simp only[lQ,ht,hu,Option.bind_some,hi.om,bg]
       split at hss
       ·rename_i hu';rw[hu'];simp only[hz,Option.bind_some]
       ·rename_i hu';rw[hu'];simp only[hz,Option.bind_some]
       ·cases hss)
      cases Di:om
      ·rw[Di] at h fin
       have h':CB E R o.dst t u x y st=some r:=h
       have hss:zf E u=true:=by
        unfold CB at h'
        split at h'
        ·split at h'
         ·exact(dA h').1
         ·cases h'
        ·cases h'
       exact agD hR (loc:=o.dst.map fun t=>(ρ.om.lc t)) h' h1 h3 hi (fin hss)
      ·rw[Di] at h fin
       have h':CF E R o.dst t u x y st=some r:=h
       have hss:zf E u=true:=by
        unfold CF at h'
        split at h'
        ·split at h'
         ·exact(dA h').1
         ·cases h'
        ·cases h'
       exact agP hR h' h1 h3 hi rfl (fin hss)
     ·cases h
    ·rename_i x l
     split at h
     ·rename_i v hv
      cases h
      obtain⟨y,ys,e,h1,h2⟩:=hrs.dH
      obtain⟨w,hw,hr⟩:=Pg false hv h1 h2
      refine⟨w,step w σ ?_,hr⟩
      rw[e]
      simp only[lQ,hw,Option.map_some]
     ·cases h
    ·rename_i x l
     split at h
     ·rename_i v hv
      cases h
      obtain⟨y,ys,e,h1,h2⟩:=hrs.dH
      obtain⟨w,hw,hr⟩:=Pg true hv h1 h2
      refine⟨w,step w σ ?_,hr⟩
      rw[e]
      simp only[lQ,hw,Option.map_some]
     ·cases h
    ·cases h
   ·cases h
  ·rename_i f eU
   split at h
   ·rename_i f' a' b' vs hf hvs
    cases himp:E.imp f' with
    |true=>rw[himp] at h;cases h
    |false=>
     rw[himp,cond_false] at h
     obtain⟨va,vb,h1,h2,h3⟩:=(aY (E:=E) hi hg hf).l5
     exact XB hR hF hop eU h1 himp ((h2.append (sU (E:=E) hi hg hvs)).append h3) hi (fun _ hx=>hx) h
   ·cases h
  ·cases h
 ·cases h
theorem rG {om:Bool} {F:Nat→List (FR R)} (hF:aW E F) (bg:ρ.om.om=om) (dX:∀d,o.dst=some d→d<F0) {g:List (Nat×Bool)} (hg:mV fr g) (hi:aH ρ aD st fr σ) {r:dG R} (h:rz E R om F g o.dst o.op st=some r):pY E st ρ aD fr σ o r:=by
 unfold rz at h
 split at h
 ·rename_i r' hx;cases h;exact ahd hR dX hg hi hx
 ·exact aho hR hF bg dX hg hi h
end
end Aq
end
section
namespace Aq
open Go
set_option linter.unusedSectionVars false
set_option linter.unusedVariables false
section
variable {R:fU} {E:Env} {ρ ρ':aL} {b aD:Nat} {st:MS R.T} {fr:Fr} {σ:ah} {o:Oper} (hR:lZ R)
include hR
def ahq (E:Env) (g:Nat) (r:FM R):Prop:=∀p q y q',r.F p q=some (y,q')→∀(ρ:aL) (vs:List V) (σ:ah),ρ.om.om=E.om g→(∀t,ρ.tk t=none)→ρ.om.lo≤σ.next→
 aB R ρ σ.top (iy R .any r.args p) vs→(∀o x,look (jM R r.obs q) o=some x→dO ρ σ o x)→
 kE E g vs ρ.om.dp σ fun v σ'=>v=kU (bD R r.res y)∧(∀o x,look (jM R r.obs q') o=some x→dO ρ σ' o x)∧σ.next≤σ'.next∧(∀l,l<σ.next→σ'.loops l=σ.loops l)∧(∀s,s<ρ.om.lo→σ'.top s=σ.top s)∧
  ∀L:Loc,L.1≤ρ.om.dp→ρ.om.out L→σ'.obj L=σ.obj L
def Jf (E:Env) (M:Nat→List (FM R)):Prop:=∀g,∀r∈M g,E.imp g=true∧ahq E g r
omit hR in
theorem XU {i:Nat}:∀{l:List Nat},aP i l=true→i∈l
 | [],h=>by cases h
 |j::l,h=>by
  have h':(Nat.beq i j||aP i l)=true:=h
  rw[Bool.or_eq_true] at h'
  rcases h' with h'|h'
  ·rw[dI h'];exact List.mem_cons_self ..
  ·exact List.mem_cons_of_mem _ (XU h')
omit hR in
theorem PE {i:Nat}:∀{l:List Nat},i∈l→aP i l=true
 | [],h=>by cases h
 |j::l,h=>by
  show (Nat.beq i j||aP i l)=true
  rw[Bool.or_eq_true]
  rcases List.mem_cons.1 h with h|h
  ·left;rw[h];exact Nat.beq_refl _
  ·right;exact PE h
omit hR in
theorem XV:∀{l:List Nat} {n o p:Nat},look (jy l n) o=some p→n≤p∧l[p-n]? =some o
 | [],_,_,_,h=>by cases h
 |a::l,n,o,p,h=>by
  have h':look ((a,n)::jy l (n+1)) o=some p:=h
  by_cases e:o=a
  ·subst e;rw[iI] at h';cases h';exact⟨Nat.le_refl _,by simp⟩
  ·rw[fC _ _ e] at h'
   obtain⟨h1,h2⟩:=XV h'
   refine⟨by omega, ?_⟩
   have:p-n=(p-(n+1))+1:=by omega
   rw[this];simpa using h2
omit hR in
theorem XW:∀{l:List Nat},wQ l=true→∀{i j o:Nat},l[i]? =some o→l[j]? =some o→i=j
 | [],_,i,j,o,hi,_=>by simp at hi
 |a::l,h,i,j,o,hi,hj=>by
  have h':(!(aP a l)&& wQ l)=true:=h
  rw[Bool.and_eq_true,Bool.not_eq_true'] at h'
  cases i with
  |zero=>
   cases j with
   |zero=>rfl
   |succ j=>
    have e:a=o:=by simpa using hi
    have e2:l[j]? =some o:=by simpa using hj
    rw[e,PE (List.mem_of_getElem? e2)] at h'
    exact absurd h'.1 (by simp)
  |succ i=>
   cases j with
   |zero=>
    have e:a=o:=by simpa using hj
    have e2:l[i]? =some o:=by simpa using hi
    rw[e,PE (List.mem_of_getElem? e2)] at h'
    exact absurd h'.1 (by simp)
   |succ j=>rw[XW h'.2 (show l[i]? =some o by simpa using hi) (show l[j]? =some o by simpa using hj)]
omit hR in
theorem PG:∀{l:List Nat} {n p:Nat} {x:Ob R.T},look (zq st (jy l n)) p=some x→∃o,n≤p∧l[p-n]? =some o∧look st.ob o=some x
 | [],_,_,_,h=>by cases h
 |a::l,n,p,x,h=>by
  have up:look (zq st (jy l (n+1))) p=some x→∃o,n≤p∧(a::l)[p-n]? =some o∧look st.ob o=some x:=fun h=>by
   obtain⟨o,h1,h2,h3⟩:=PG h
   refine⟨o,by omega, ?_,h3⟩
   have:p-n=(p-(n+1))+1:=by omega
   rw[this];simpa using h2
  have h':=h
  unfold jy zq at h'
  split at h'
  ·rename_i y hy
   by_cases e:p=n
   ·subst e;rw[iI] at h';cases h';exact⟨a,Nat.le_refl _,by simp,hy⟩
   ·rw[fC _ _ e] at h';exact up h'
  ·exact up h'
omit hR in
theorem PI {L:List (Nat×Ob R.T)}:∀{l:List Nat} {n o:Nat} {y:Ob R.T},look (pR (jy l n) L) o=some y→∃p,n≤p∧l[p-n]? =some o∧look L p=some y
 | [],_,_,_,h=>by cases h
 |a::l,n,o,y,h=>by
  have up:look (pR (jy l (n+1)) L) o=some y→∃p,n≤p∧(a::l)[p-n]? =some o∧look L p=some y:=fun h=>by
   obtain⟨p,h1,h2,h3⟩:=PI h
   refine⟨p,by omega, ?_,h3⟩
   have:p-n=(p-(n+1))+1:=by omega
   rw[this];simpa using h2
  have h':=h
  unfold jy pR at h'
  split at h'
  ·rename_i z hz
   by_cases e:o=a
   ·subst e;rw[iI] at h';cases h';exact⟨n,Nat.le_refl _,by simp,hz⟩
   ·rw[fC _ _ e] at h';exact up h'
  ·exact up h'
omit hR in
theorem XY {L:List (Nat×Ob R.T)}:∀{l:List Nat} {n o:Nat},(∀p,n≤p→p<n+l.length→∃y,look L p=some y)→look (pR (jy l n) L) o=none→o∉l
 | [],_,_,_,_=>by simp
 |a::l,n,o,hL,h=>by
  obtain⟨y,hy⟩:=hL n (Nat.le_refl _) (by simp)
  have h':=h
  unfold jy pR at h'
  rw[hy] at h'
  by_cases e:o=a
  ·subst e;rw[iI] at h';cases h'
  ·rw[fC _ _ e] at h'
   have:=XY (fun p h1 h2=>hL p (by omega) (by rw[List.length_cons];omega)) h'
   simp[e,this]
omit hR in
theorem Jg:∀{l:List Nat} {n:Nat} {obs:List (Nat×jC)} {q:mI R.T obs},zu (jy l n) obs=true→∀p,n≤p→p<n+l.length→∃y,look (jM R obs q) p=some y
 | [],n,_,_,_,p,h1,h2=>by simp at h2;omega
 |a::l,n,[],_,h,_,_,_=>by cases h
 |a::l,n,[(j,k)],q,h,p,h1,h2=>by
  have h':(Nat.beq n j&& zu (jy l (n+1)) [])=true:=h
  rw[Bool.and_eq_true] at h'
  have hj:=dI h'.1
  subst hj
  by_cases e:p=n
  ·subst e;exact⟨_,iI _ _ _⟩
  ·obtain⟨y,hy⟩:=Jg (q:=show mI R.T [] from ()) h'.2 p (by omega) (by rw[List.length_cons] at h2;omega)
   cases hy
 |a::l,n,(j,k)::x::obs,q,h,p,h1,h2=>by
  have h':(Nat.beq n j&& zu (jy l (n+1)) (x::obs))=true:=h
  rw[Bool.and_eq_true] at h'
  have hj:=dI h'.1
  subst hj
  show∃y,look ((n,jL R k q.1)::jM R (x::obs) q.2) p=some y
  by_cases e:p=n
  ·subst e;exact⟨_,iI _ _ _⟩
  ·rw[fC _ _ e]
   exact Jg h'.2 p (by omega) (by rw[List.length_cons] at h2;omega)
omit hR in
theorem PK {L:List (Nat×Ob R.T)}:∀(l:List (Nat×jC)) (x:mI R.T l),kV R L l=some x→∀i v,look (jM R l x) i=some v→∃k y z,look L i=some y∧uW R k y=some z∧v=jL R k z∧(rC l=true→okO k=true)
 | [],x,hx,i,v,hv=>by cases hv
 | [(j,k)],x,hx,i,v,hv=>by
   unfold kV at hx
   split at hx
   ·rename_i y hy
    by_cases e:i=j
    ·subst e
     have hv':look [(i,jL R k x)] i=some v:=hv
     rw[iI] at hv';cases hv'
     exact⟨k,y,x,hy,hx,rfl,fun h=>by unfold rC at h;rw[Bool.and_eq_true] at h;exact h.1⟩
    ·have hv':look [(j,jL R k x)] i=some v:=hv
     rw[fC _ _ e] at hv';cases hv'
   ·cases hx
 | (j,k)::q::l,x,hx,i,v,hv=>by
   unfold kV at hx
   split at hx
   ·rename_i y hy
    cases hu:uW R k y with
    |none=>simp only[hu] at hx;cases hx
    |some z=>
     cases hs:kV R L (q::l) with
     |none=>simp only[hu,hs] at hx;cases hx
     |some p=>
      simp only[hu,hs] at hx
      obtain rfl:=Option.some.inj hx
      have hv':look ((j,jL R k z)::jM R (q::l) p) i=some v:=hv
      by_cases e:i=j
      ·subst e
       rw[iI] at hv';cases hv'
       exact⟨k,y,z,hy,hu,rfl,fun h=>by unfold rC at h;rw[Bool.and_eq_true] at h;exact h.1⟩
      ·rw[fC _ _ e] at hv'
       obtain⟨k',y',z',h1,h2,h3,h4⟩:=PK (q::l) p hs i v hv'
       exact⟨k',y',z',h1,h2,h3,fun h=>h4 (by unfold rC at h;rw[Bool.and_eq_true] at h;exact h.2)⟩
   ·cases hx
omit hR in
theorem XZ:∀{l:List (Nat×jC)} {x:mI R.T l},rC l=true→∀{i:Nat} {v:Ob R.T},look (jM R l x) i=some v→∃k z,okO k=true∧v=jL R k z
 | [],x,_,i,v,hv=>by cases hv
 | [(j,k)],x,h,i,v,hv=>by
   unfold rC at h;rw[Bool.and_eq_true] at h
   have hv':look [(j,jL R k x)] i=some v:=hv
   by_cases e:i=j
   ·subst e;rw[iI] at hv';cases hv';exact⟨k,x,h.1,rfl⟩
   ·rw[fC _ _ e] at hv';cases hv'
 | (j,k)::q::l,x,h,i,v,hv=>by
   unfold rC at h;rw[Bool.and_eq_true] at h
   have hv':look ((j,jL R k x.1)::jM R (q::l) x.2) i=some v:=hv
   by_cases e:i=j
   ·subst e;rw[iI] at hv';cases hv';exact⟨k,x.1,h.1,rfl⟩
   ·rw[fC _ _ e] at hv';exact XZ h.2 hv'
omit hR in
theorem X0 {top top':Nat→Nat} {t:Ty} {x:Den R.T t} {v:V} (h:Rl R ρ top (eG R .any t x) v):Rl R ρ' top' (eG R .any t x) v:=by
 cases t with
 |st n=>obtain⟨l,hv,hl⟩:=Rl.jA (R:=R) h;exact⟨l,hv,vB _ _ _ hl⟩
 |int k=>exact h
 |bool=>exact h
 |str=>exact h
 |slice t=>exact h
omit hR in
theorem X3 {top top':Nat→Nat}:∀{l:List Sk} {z:aA R.T l} {cs:List V},OB l=true→aB R ρ top (iy R .any l z) cs→aB R ρ' top' (iy R .any l z) cs
 | [],_,_,_,h=>h
 | [k],z,cs,hd,h=>by
   cases k<;>first| (cases hd;done)|skip
   rename_i t
   obtain⟨v,ws,rfl,h1,h2⟩:=aB.dH (ts:=[]) (show aB R ρ top [eG R .any t z] cs from h)
   rw[h2.eH]
   exact .cons' (X0 h1) rfl
 |k::q::l,z,cs,hd,h=>by
  cases k<;>first| (cases hd;done)|skip
  rename_i t
  obtain⟨v,ws,rfl,h1,h2⟩:=aB.dH (show aB R ρ top (eG R .any t z.1::iy R .any (q::l) z.2) cs from h)
  exact .cons' (X0 h1) (X3 (l:=q::l) hd h2)
omit hR in
theorem X4 {o p:Nat} {k:jC} {z:uQ R.T k} (hk:okO k=true) (hb:ρ'.ob p=ρ.ob o) (hn:ρ'.ln p=ρ.ln o) (hl:ρ'.om.lc p=ρ.om.lc o) (h:dO ρ σ o (jL R k z)):dO ρ' σ p (jL R k z):=by
 cases k with
 |cells l=>obtain⟨s,cs,h1,h2,h3⟩:=h;exact⟨s,cs,by rw[hb];exact h1,by rw[hl];exact h2,X3 hk h3⟩
 |st n=>obtain⟨s,cs,h1,h2,h3⟩:=h;exact⟨s,cs,by rw[hb];exact h1,by rw[hl];exact h2,vB _ _ _ h3⟩
 |map k e=>obtain⟨s,h1,h2⟩:=h;exact⟨s,by rw[hb];exact h1,by rw[hl];exact h2⟩
 |arr t=>
  refine⟨h.1.trans hn.symm, ?_⟩
  rcases h.2 with h| ⟨s,cs,h1,h2,h3⟩
  ·exact .inl ⟨h.1,by rw[hb];exact h.2⟩
  ·exact .inr ⟨s,cs,by rw[hb];exact h1,by rw[hl];exact h2,sS _ cs h3⟩
 |sg l=>obtain⟨s,h1,h2⟩:=h;exact⟨s,by rw[hb];exact h1,by rw[hl];exact h2⟩
omit hR in
mutual
theorem Rl.ren {top:Nat→Nat} {m:List (Nat×Nat)} (hm:∀o p,look m o=some p→ρ'.om.lc p=ρ.om.lc o∧ρ'.ob p=ρ.ob o∧ρ'.ln p=ρ.ln o):∀(x:TV R.T) (v:V),Rl R ρ top x v→Rl R ρ' top (sO m x) v
 |.ref o off,v,h=>by
  obtain⟨s,h1,h2⟩:=h
  unfold sO
  split
  ·rename_i p hp;obtain⟨a,b,c⟩:=hm _ _ hp;exact⟨s,by rw[b];exact h1,by rw[a];exact h2⟩
  ·unfold Rl;trivial
 |.bN o,v,h=>by
  obtain⟨s,h1,h2⟩:=h
  unfold sO
  split
  ·rename_i p hp;obtain⟨a,b,c⟩:=hm _ _ hp;exact⟨s,by rw[b];exact h1,by rw[a];exact h2⟩
  ·unfold Rl;trivial
 |.vw o t,v,h=>by
  unfold sO
  split
  ·rename_i p hp
   obtain⟨a,b,c⟩:=hm _ _ hp
   rcases h with ⟨s,h1,h2⟩| ⟨h1,h2⟩
   ·exact .inl ⟨s,by rw[b];exact h1,by rw[a,c];exact h2⟩
   ·exact .inr ⟨by rw[c];exact h1,h2⟩
  ·unfold Rl;trivial
 |.jk o t i off,v,h=>by
  obtain⟨s,h1,h2⟩:=h
  unfold sO
  split
  ·rename_i p hp;obtain⟨a,b,c⟩:=hm _ _ hp;exact⟨s,by rw[b];exact h1,by rw[a];exact h2⟩
  ·unfold Rl;trivial
 |.sv o _ _ _ _ _,v,h=>by
  obtain⟨s,h1,h2⟩:=h
  unfold sO
  split
  ·rename_i p hp;obtain⟨a,b,c⟩:=hm _ _ hp;exact⟨s,by rw[b];exact h1,by rw[a];exact h2⟩
  ·unfold Rl;trivial
 |.sel o _ _ _ _ _,v,h=>by
  obtain⟨s,h1,h2⟩:=h
  unfold sO
  split
  ·rename_i p hp;obtain⟨a,b,c⟩:=hm _ _ hp;exact⟨s,by rw[b];exact h1,by rw[a];exact h2⟩
  ·unfold Rl;trivial
 |.aj c t l,v,h=>by
  obtain⟨c',hv,hc⟩:=h
  unfold sO
  cases c with
  |own u=>exact⟨c',hv,trivial⟩
  |any=>exact⟨c',hv,trivial⟩
  |sh=>exact⟨c',hv,hc⟩
  |nil=>exact⟨c',hv,hc⟩
  |full=>exact⟨c',hv,hc⟩
 |.agg cs,v,h=>by obtain⟨l,hv,hl⟩:=h;exact⟨l,hv,aB.ren hm cs l hl⟩
 |.bA cs,v,h=>by obtain⟨l,hv,hl⟩:=h;exact⟨l,hv,aB.ren hm cs l hl⟩
 |.aI cs off,v,h=>by obtain⟨l,hv,hl⟩:=h;exact⟨l,hv,aB.ren hm cs l hl⟩
 |.fn f a b,v,h=>by obtain⟨a',b',hv,ha,hb⟩:=h;exact⟨a',b',hv,aB.ren hm a a' ha,aB.ren hm b b' hb⟩
 |.opt _ _ _,_,h=>h.elim
 |.int _ _,_,h=>h
 |.bool _,_,h=>h
 |.fH _,_,h=>h
 |.str _,_,h=>h
 |.eu,_,h=>h
 |.dU,_,h=>h
 |.dP,_,h=>h
 |.fB,_,h=>h
 |.dW,_,h=>h
 |.cK _ _ _,_,h=>h
 |.undef,_,h=>h
 |.sg _,_,h=>h
 |.oz _ _ _ _,_,h=>h
 |.gone,_,h=>h
theorem aB.ren {top:Nat→Nat} {m:List (Nat×Nat)} (hm:∀o p,look m o=some p→ρ'.om.lc p=ρ.om.lc o∧ρ'.ob p=ρ.ob o∧ρ'.ln p=ρ.ln o):∀(x:List (TV R.T)) (v:List V),aB R ρ top x v→aB R ρ' top (vg m x) v
 | [],_,h=>h
 |x::xs,_,⟨v,vs,e,h1,h2⟩=>⟨v,vs,e,Rl.ren hm x v h1,aB.ren hm xs vs h2⟩
end
omit hR in
mutual
theorem Rl.top {ρ:aL} {t t':Nat→Nat} (ht:∀u s,ρ.tk u=some s→t' s=t s):∀(x:TV R.T) (v:V),Rl R ρ t x v→Rl R ρ t' x v
 |.aj c ty l,v,h=>by
  obtain⟨c',hv,hc⟩:=h
  refine⟨c',hv, ?_⟩
  cases c<;>first|exact hc|skip
  rcases hc with hc|hc| ⟨s,h1,h2,h3⟩
  ·exact .inl hc
  ·exact .inr (.inl hc)
  ·exact .inr (.inr ⟨s,h1,h2,(ht _ _ h2).trans h3⟩)
 |.agg cs,v,h=>by obtain⟨l,hv,hl⟩:=h;exact⟨l,hv,aB.top ht cs l hl⟩
 |.bA cs,v,h=>by obtain⟨l,hv,hl⟩:=h;exact⟨l,hv,aB.top ht cs l hl⟩
 |.aI cs off,v,h=>by obtain⟨l,hv,hl⟩:=h;exact⟨l,hv,aB.top ht cs l hl⟩
 |.fn f a b,v,h=>by obtain⟨a',b',hv,ha,hb⟩:=h;exact⟨a',b',hv,aB.top ht a a' ha,aB.top ht b b' hb⟩
 |.ref _ _,_,h=>h
 |.bN _,_,h=>h
 |.vw _ _,_,h=>h
 |.jk _ _ _ _,_,h=>h
 |.opt _ _ _,_,h=>h.elim
 |.int _ _,_,h=>h
 |.bool _,_,h=>h
 |.fH _,_,h=>h
 |.str _,_,h=>h
 |.eu,_,h=>h
 |.dU,_,h=>h
 |.dP,_,h=>h
 |.fB,_,h=>h
 |.dW,_,h=>h
 |.cK _ _ _,_,h=>h
 |.undef,_,h=>h
 |.sg _,_,h=>h
 |.sv _ _ _ _ _ _,_,h=>h
 |.sel _ _ _ _ _ _,_,h=>h
 |.oz _ _ _ _,_,h=>h
 |.gone,_,h=>h
theorem aB.top {ρ:aL} {t t':Nat→Nat} (ht:∀u s,ρ.tk u=some s→t' s=t s):∀(x:List (TV R.T)) (v:List V),aB R ρ t x v→aB R ρ t' x v
 | [],_,h=>h
 |x::xs,_,⟨v,vs,e,h1,h2⟩=>⟨v,vs,e,Rl.top ht x v h1,aB.top ht xs vs h2⟩
end
omit hR in
theorem gq.top {fr:Fr} {ρ:aL} {t t':Nat→Nat} (ht:∀u s,ρ.tk u=some s→t' s=t s) {x:TV R.T} {v:V} (h:gq fr ρ t x v):gq fr ρ t' x v:=by
 cases x with
 |opt j w y=>exact⟨fun hc=>Rl.top ht y v (h.1 hc),h.2⟩
 |_=>exact .of (Rl.top ht _ v h)
omit hR in
theorem PL {ρ:aL} {σ σ':ah} {p:Nat} (hp:σ'.obj (ρ.om.lc p)=σ.obj (ρ.om.lc p)) (ht:∀u s,ρ.tk u=some s→σ'.top s=σ.top s):∀{x:Ob R.T},dO ρ σ p x→dO ρ σ' p x
 |.cells cs,h=>by
  obtain⟨s,l,h1,h2,h3⟩:=h
  exact⟨s,l,h1,by unfold ah.bO at h2⊢;rw[hp];exact h2,aB.top ht _ _ h3⟩
 |.map k e m,h=>by
  obtain⟨s,h1,h2⟩:=h
  exact⟨s,h1,by unfold ah.eD at h2⊢;rw[hp];exact h2⟩
 |.smap ks vs,h=>by
  obtain⟨s,k,l,h1,h2,h3,h4⟩:=h
  exact⟨s,k,l,h1,by unfold ah.eD at h2⊢;rw[hp];exact h2,aB.top ht _ _ h3,aB.top ht _ _ h4⟩
 |.arr t l,h=>by
  refine⟨h.1, ?_⟩
  rcases h.2 with h| ⟨s,cs,h1,h2,h3⟩
  ·exact .inl h
  ·exact .inr ⟨s,cs,h1,by unfold ah.bO at h2⊢;rw[hp];exact h2,sS l cs h3⟩
 |.sg ss,h=>by
  obtain⟨s,h1,h2⟩:=h
  exact⟨s,h1,by unfold ah.bO at h2⊢;rw[hp];exact h2⟩
 |.gone,_=>trivial
 |.ro b,h=>PL hp ht (x:=b) h
omit hR in
theorem aH.shift {ρ:aL} {b:Nat} {st:MS R.T} {fr:Fr} {σ σ':ah} (h:aH ρ b st fr σ) (hp:∀p,σ'.obj (ρ.om.lc p)=σ.obj (ρ.om.lc p)) (ht:∀s,s<b→σ'.top s=σ.top s):aH ρ b st fr σ':={h with
 fr:=fun i v hv=>(h.fr i v hv).top fun u s hu=>ht s (h.lt u s hu)
 ob:=fun o x hx=>PL (hp o) (fun u s hu=>ht s (h.lt u s hu)) (h.ob o x hx)}
omit hR in
theorem X5 {top:Nat→Nat}:∀{l:List Sk} {y:aA R.T l},zw l=true→aB R ρ top (iy R .any l y) (bD R l y)
 | [],_,_=>rfl
 | [k],y,h=>by
   cases k<;>first| (cases h;done)|skip
   rename_i t
   cases t<;>first| (cases h;done)|skip
   all_goals exact .cons' rfl rfl
 |k::q::l,y,h=>by
  cases k<;>first| (cases h;done)|skip
  rename_i t
  cases t<;>first| (cases h;done)|skip
  all_goals exact .cons' rfl (X5 (l:=q::l) (y:=y.2) h)
omit hR in
theorem ahr {top:Nat→Nat} {xs:List (TV R.T)} {vs:List V} (h:aB R ρ top xs vs):Rl R ρ top (V5 xs) (kU vs):=by
 match xs,vs,h with
 | [],_,h=>rw[h.eH];exact⟨[],rfl,rfl⟩
 | [x],_,h=>obtain⟨v,l,rfl,h1,h2⟩:=h.dH;rw[h2.eH];exact h1
 |x::y::l,_,h=>
  obtain⟨v,ws,rfl,h1,h2⟩:=h.dH
  obtain⟨w,us,rfl,h3,h4⟩:=h2.dH
  exact⟨v::w::us,rfl,.cons' h1 (.cons' h3 h4)⟩
omit hR in
theorem X6 {m:List (Nat×Nat)} {A:List (TV R.T)} {B:List (Nat×Ob R.T)}:∀{l:List (FM R)} {r:FM R} {x:Option (aA R.T r.res×mI R.T r.obs)},Ir R m A B l=some ⟨r,x⟩→r∈l∧∃p q,eX R r.args A=some p∧kV R B r.obs=some q∧zu m r.obs=true∧zw r.res=true∧rC r.obs=true∧x=r.F p q
 | [],_,_,h=>by cases h
 |s::l,r,x,h=>by
  unfold Ir at h
  split at h
  ·rename_i p q hp hq
   obtain⟨hb,h⟩:=dA h
   rw[Bool.and_eq_true,Bool.and_eq_true] at hb
   cases h
   exact⟨List.mem_cons_self ..,p,q,hp,hq,hb.1,hb.2.1,hb.2.2,rfl⟩
  ·obtain⟨h1,h2⟩:=X6 h
   exact⟨List.mem_cons_of_mem _ h1,h2⟩
def Cx.call (c:Cx) (om:Bool) (lo:Nat) (ids:List Nat) (hnd:wQ ids=true):Cx where
 om:=om
 dp:=c.dp+1
 lo:=lo
 fl:=fun p=>if F0≤p then (ids[p-F0]?).map c.lc else none
 lt:=fun p L h=>by
  split at h
  ·rename_i hp
   obtain⟨o,_,rfl⟩:=Option.map_eq_some_iff.1 h
   exact⟨hp,Nat.lt_succ_of_le (c.zA o)⟩
  ·cases h
 inj:=fun p q L h g=>by
  split at h
  ·split at g
   ·rename_i hp hq
    obtain⟨o,h1,rfl⟩:=Option.map_eq_some_iff.1 h
    obtain⟨o',h2,e⟩:=Option.map_eq_some_iff.1 g
    have:=c.OD e
    subst this
    have:=XW hnd h1 h2
    omega
   ·cases g
  ·cases h
omit hR in
theorem Cx.ahs {c:Cx} {om:Bool} {lo:Nat} {ids:List Nat} {hnd:wQ ids=true} {p o:Nat} (hp:F0≤p) (h:ids[p-F0]? =some o):(c.call om lo ids hnd).lc p=c.lc o:=by
 unfold Cx.lc Cx.call
 dsimp only
 rw[if_pos hp,h]
 rfl
omit hR in
theorem Cx.X7 {c:Cx} {om:Bool} {lo:Nat} {ids:List Nat} {hnd:wQ ids=true} {L:Loc} (hL:L.1≤c.dp) (h:∀o∈ids,L≠c.lc o):(c.call om lo ids hnd).out L:=by
 intro p e
 unfold Cx.lc Cx.call at e
 dsimp only at e
 split at e
 ·rename_i M hM
  split at hM
  ·obtain⟨o,h1,rfl⟩:=Option.map_eq_some_iff.1 hM
   exact h o (List.mem_of_getElem? h1) e
  ·cases hM
 ·rw[e] at hL;dsimp only at hL;omega
theorem PN {β:Type} {M:Nat→List (FM R)} (hM:Jf E M) (hi:aH ρ aD st fr σ) (hsn:aD≤σ.next) {k:MS R.T→Option β} {x:β} (h:wR R M o st k=some x):
 ∃c f g a vb,o.op= .call c∧c.callee= .value f∧fr.ev E f= .fn (.func g) a vb∧E.imp g=true∧kE E g (a++c.args.toList.map (fr.ev E)++vb) (fr.d+1) σ fun v σ1=> ∃st1,aH ρ (aD+1) st1 (fr.put o.dst v) σ1∧σ.next≤σ1.next∧(∀p,aV false p st ρ σ st1 ρ σ1)∧k st1=some x:=by
 unfold wR at h
 split at h
 ·rename_i c hop
  split at h
  ·rename_i f eU
   split at h
   ·rename_i g a' b' vs hf hvs
    obtain⟨hnd,h⟩:=dA h
    generalize aok:pQ (a'++vs++b') []=ids at*
    split at h
    ·rename_i r x' hfm
     obtain⟨⟨y,q'⟩,hy,hk⟩:=Option.bind_eq_some_iff.1 h
     obtain⟨hr,p,q,hp,hq,hks,hsc,hok,rfl⟩:=X6 hfm
     obtain⟨va,vb,G5,hva,hvb⟩:=(aY (E:=E) hi .nil hf).l5
     have hA:=(hva.append (sU (E:=E) hi .nil hvs)).append hvb
     let ρc:aL:=⟨fun p=>if F0≤p then (ids[p-F0]?).bind ρ.ob else none,fun _=>none,fun p=>if F0≤p then (match ids[p-F0]? with|some o=>ρ.ln o|none=>0) else 0,ρ.om.call (E.om g) σ.next ids hnd⟩
     have hρ:∀{p o},F0≤p→ids[p-F0]? =some o→ρc.om.lc p=ρ.om.lc o∧ρc.ob p=ρ.ob o∧ρc.ln p=ρ.ln o:=fun {p o} h1 h2=>by
      refine⟨Cx.ahs (hnd:=hnd) h1 h2, ?_, ?_⟩
      ·show (if F0≤p then (ids[p-F0]?).bind ρ.ob else none)=_
       rw[if_pos h1,h2];rfl
      ·show (if F0≤p then (match ids[p-F0]? with|some o=>ρ.ln o|none=>0) else 0)=_
       rw[if_pos h1,h2]
     have hm:∀o p,look (jy ids F0) o=some p→ρc.om.lc p=ρ.om.lc o∧ρc.ob p=ρ.ob o∧ρc.ln p=ρ.ln o:=fun o p hp=>by
      obtain⟨h1,h2⟩:=XV hp
      exact hρ h1 h2
     obtain⟨himp,hF⟩:=hM g r hr
     obtain⟨n,v,σ',hcall,hv,aht,hnx,hlp,htp,hout⟩:=hF p q y q' hy ρc (va++c.args.toList.map (fr.ev E)++vb) σ rfl (fun _=>rfl) (Nat.le_refl _) (wZ hR r.args p _ _ hp (aB.ren hm _ _ hA)) (fun i w hw=>by
      obtain⟨kk,yy,z,h1,h2,rfl,h4⟩:=PK r.obs q hq i w hw
      obtain⟨o',h5,h6,h7⟩:=PG h1
      obtain⟨e1,e2,e3⟩:=hρ h5 h6
      exact X4 (h4 hok) e2 e3 e1 (OX hR h2 (hi.ob _ _ h7)))
     have hst:∀s,s<aD→σ'.top s=σ.top s:=fun s hs=>htp s (Nat.lt_of_lt_of_le hs hsn)
     have hno:∀o',o'∉ids→σ'.obj (ρ.om.lc o')=σ.obj (ρ.om.lc o'):=fun o' ho'=>
      hout _ (Nat.le_succ_of_le (ρ.om.zA o')) (Cx.X7 (hnd:=hnd) (ρ.om.zA o') fun o'' h2 e=>ho' (by rw[ρ.om.OD e];exact h2))
     have O4:aH ρ (aD+1) (⟨st.fr,pR (jy ids F0) (jM R r.obs q')++st.ob⟩:MS R.T) fr σ':={
      d:=hi.d
      om:=hi.om
      fr:=fun i w hw=>(hi.fr i w hw).top fun u s hu=>hst s (hi.lt u s hu)
      ob:=fun o' w hw=>by
       have hw':look (pR (jy ids F0) (jM R r.obs q')++st.ob) o'=some w:=hw
       rw[sV] at hw'
       split at hw'
       ·rename_i z hz
        cases hw'
        obtain⟨p',h1,h2,h3⟩:=PI hz
        obtain⟨kk,zz,h4,rfl⟩:=XZ hok h3
        obtain⟨e1,e2,e3⟩:=hρ h1 h2
        exact X4 h4 e2.symm e3.symm e1.symm (aht _ _ h3)
       ·rename_i hz
        have hn:=XY (fun p' h1 h2=>Jg hks p' h1 h2) hz
        exact PL (hno o' hn) (fun u s hu=>hst s (hi.lt u s hu)) (hi.ob _ _ hw')
      inj:=hi.inj
      lt:=fun t s ht=>Nat.lt_succ_of_lt (hi.lt t s ht)
      ge:=hi.ge
      nx:=Nat.le_succ_of_le hi.nx}
     refine⟨c,f,g,va,vb,hop,eU,G5,himp,n,v,σ', ?_,_, ?_,hnx, ?_,hk⟩
     ·rw[hi.d];exact hcall
     ·rw[hv]
      exact O4.dQ o.dst (ahr (X5 hsc))
     ·intro p'
      refine aV.congr (st':=(⟨st.fr,pR (jy ids F0) (jM R r.obs q')++st.ob⟩:MS R.T)) ⟨rfl,rfl,rfl,hnx,⟨hlp,fun s hs=>hst s (Nat.lt_of_lt_of_le hs hi.nx)⟩,fun L hL ho=> ?_,fun hro=> ?_⟩ kI
      ·have hL':L.1≤ρ.om.dp:=by rcases hL with e|e;cases e;exact e
       exact hout L (Nat.le_succ_of_le hL') (Cx.X7 (hnd:=hnd) hL' fun o' _=>ho o')
      ·have hn:p'∉ids:=by
        intro hmem
        obtain⟨i,hi'⟩:=List.getElem?_of_mem hmem
        have hlt:i<ids.length:=by
         rcases Nat.lt_or_ge i ids.length with h|h
         ·exact h
         ·rw[List.getElem?_eq_none h] at hi';cases hi'
        obtain⟨w,hw⟩:=Jg (q:=q) hks (F0+i) (Nat.le_add_right _ _) (by omega)
        obtain⟨kk,yy,z,h1,h2,_,_⟩:=PK r.obs q hq _ _ hw
        obtain⟨o',h5,h6,h7⟩:=PG h1
        rw[Nat.add_sub_cancel_left,hi'] at h6
        cases h6
        exact OY h2 (hro _ h7)
       refine⟨fun w hw=> ?_,fun s=> ?_⟩
       ·have hw':look (pR (jy ids F0) (jM R r.obs q')++st.ob) p'=some w:=hw
        rw[sV] at hw'
        split at hw'
        ·rename_i z hz
         obtain⟨p'',h1,h2,h3⟩:=PI hz
         exact absurd (List.mem_of_getElem? h2) hn
        ·exact hro _ hw'
       ·unfold ah.bO ah.eD
        rw[hno p' hn]
        exact⟨rfl,rfl⟩
    ·cases h
   ·cases h
  ·cases h
 ·cases h
end
end Aq
end
