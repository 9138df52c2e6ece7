/- Part of the proof of a law. -/
import Derived.Test.YtdcnajadcbedkaaGreatDoorS1109
set_option linter.all false
set_option linter.unusedSimpArgs false
set_option linter.unusedSectionVars false
section
namespace Aq
open Go
set_option linter.unusedSectionVars false
set_option linter.unusedVariables false
section
variable {R:gM} {E:Env}
variable {ρ:aL} {top:Nat→Nat} {b aB:Nat} {st:MS R.T} {fr:Fr} {σ:ah} {o:Oper}
theorem EB {P:Program} {t e:TypeId} {n:Nat} (h:oP P t=some (n,e)):P.underlying t=some (.array n e):=by
 unfold oP at h
 split at h
 ·rename_i n' e' hu;cases h;exact hu
 ·cases h
theorem wU {t:TypeId} (h:oD E t=true):bC E.P t=some 1∧gH E.P t=some false:=by
 unfold oD at h
 split at h
 ·rename_i sz ag h1 h2
  rw[Bool.and_eq_true] at h
  rw[dG h.1] at h1
  cases ag
  ·exact⟨h1,h2⟩
  ·simp at h
 ·cases h
theorem wV (a b:List Sg):iO (a++b)=iO a+iO b:=by rw[←fQ,oH,List.length_append,fQ,fQ]
theorem VI {pre rest:List Sg} {n:Nat} (h:iO pre=n) (k:Nat):(bB (pre++rest)).drop (n+k)=(bB rest).drop k:=by
 rw[oH,←h,←fQ,List.drop_append,List.drop_of_length_le (by omega),List.nil_append,Nat.add_sub_cancel_left]
theorem Jp (s:Sg) (l:List Sg):bB (s::l)=s.vs++bB l:=rfl
theorem Jq (s:Sg) (l:List Sg):iO (s::l)=s.w+iO l:=rfl
theorem O6 {ρ:aL} {top:Nat→Nat} (k:IntKind):∀l:List Int,aC R ρ top (l.map (TV.int k)) (l.map (V.int k))
 | []=>rfl
 |x::l=>.cons' (by unfold Rl;rfl) (O6 k l)
theorem afa {n:Nat} (v:Vec n):(List.range n).map v.nth=v.l:=by
 apply List.ext_getElem
 ·rw[List.length_map,List.length_range,v.h]
 ·intro i h1 h2
  rw[List.getElem_map,List.getElem_range]
  unfold Vec.nth
  rw[List.getD_eq_getElem?_getD,List.getElem?_eq_getElem h2];rfl
theorem O7 {ρ:aL} {top:Nat→Nat}:∀ss:List Sg,aC R ρ top (Ee ss) (bB ss)
 | []=>rfl
 |.i k x::l=>.cons' (by unfold Rl;rfl) (O7 l)
 |.a k n v::l=>by
  show aC R ρ top ((List.range n).map (fun j=>TV.int k (v.nth j))++Ee l) (v.l.map (V.int k)++bB l)
  refine aC.append ?_ (O7 l)
  have:(List.range n).map (fun j=>TV.int (T:=R.T) k (v.nth j))=v.l.map (TV.int k):=by
   rw[←afa v,List.map_map];rfl
  rw[this]
  exact O6 k v.l
theorem VJ {t:TypeId} {ss:List Sg} {off:Nat} {v:TV R.T} (h:IQ E R t ss off=some v):∃y,dI E.P t (bB ss) off=some y∧Rl R ρ top v y:=by
 unfold IQ at h
 split at h
 ·rename_i pre rest sz ag h1 h2 h3
  obtain⟨e1,w1⟩:=tq h1
  split at h
  ·rename_i mid post h4
   obtain⟨e2,w2⟩:=tq h4
   have hd:(bB ss).drop off=bB mid++bB post:=by
    have:=VI (rest:=rest) w1 0
    rw[←e1,Nat.add_zero] at this
    rw[this,e2,oH];rfl
   have hlen:(bB ss).length=off+(sz+iO post):=by rw[fQ,e1,wV,w1,e2,wV,w2]
   unfold dI;rw[h3,h2];simp only[Option.bind_some]
   cases ag with
   |true=>
    rw[cond_true] at h
    have hp:mq true sz (bB ss) off=some (.agg (bB mid)):=by
     unfold mq;rw[if_pos rfl,if_pos (by omega),hd,List.take_append_of_le_length (by rw[fQ,w2];exact Nat.le_refl _),List.take_of_length_le (by rw[fQ,w2];exact Nat.le_refl _)]
    split at h
    ·cases h;exact⟨_,hp,by unfold Rl;rfl⟩
    ·cases h;exact⟨_,hp,by unfold Rl;exact⟨_,rfl,O7 mid⟩⟩
   |false=>
    rw[cond_false] at h
    split at h
    ·rename_i k x
     cases h
     refine⟨.int k x, ?_,by unfold Rl;rfl⟩
     unfold mq;simp only[Bool.false_eq_true,if_false]
     have:=congrArg (fun l=>l[0]?) hd
     rw[List.getElem?_drop,Nat.add_zero] at this
     rw[this];rfl
    ·cases h
  ·cases h
 ·cases h
theorem VK {n:Nat} (v:Vec n) {i:Int} (h:i.toNat<n):v.l[i.toNat]? =some (v.at' i):=by
 unfold Vec.at'
 rw[List.getD_eq_getElem?_getD,List.getElem?_eq_getElem (by rw[v.h];exact h)];rfl
theorem VL {ss pre post:List Sg} {off n:Nat} {k:IntKind} {v:Vec n} {i:Int} {t:TypeId} (h:nG ss off=some (pre,.a k n v::post)) (hi:i.toNat<n) (ht:oD E t=true):dI E.P t (bB ss) (off+i.toNat)=some (.int k (v.at' i)):=by
 obtain⟨e1,w1⟩:=tq h
 obtain⟨h1,h2⟩:=wU ht
 unfold dI;rw[h1,h2];simp only[Option.bind_some]
 unfold mq;simp only[Bool.false_eq_true,if_false]
 rw[e1,oH,List.getElem?_append_right (by rw[fQ,w1];omega),fQ,w1,Nat.add_sub_cancel_left,Jp,List.getElem?_append_left (by rw[Sg.len];exact hi)]
 show (v.l.map (V.int k))[i.toNat]? =_
 rw[List.getElem?_map,VK v hi];rfl
theorem EC {n:Nat} {l:List Int} (h:l.length=n):(Vec.lit n l).l=l:=by
 unfold Vec.lit;rw[dif_pos h]
theorem afb {l:List Int} {a m:Nat} (h:a+m≤l.length):(List.range m).map (fun j=>l.getD (a+j) 0)=(l.drop a).take m:=by
 apply List.ext_getElem
 ·rw[List.length_map,List.length_range,List.length_take,List.length_drop];omega
 ·intro i h1 h2
  rw[List.length_map,List.length_range] at h1
  rw[List.getElem_map,List.getElem_range,List.getElem_take,List.getElem_drop,List.getD_eq_getElem?_getD,List.getElem?_eq_getElem (by omega)];rfl
theorem afc {t:TypeId} {ss pre post:List Sg} {off n m:Nat} {k:IntKind} {v:Vec n} {i:Int} {y:TV R.T} (h:nG ss off=some (pre,.a k n v::post)) (hi:i.toNat+m≤n) (hs:N9 E R t k m n v i=some y):∃x,dI E.P t (bB ss) (off+i.toNat)=some x∧Rl R ρ top y x:=by
 obtain⟨e1,w1⟩:=tq h
 unfold N9 at hs
 split at hs
 ·rename_i m' e sz h1 h2 h3
  obtain⟨hc,hs⟩:=cZ hs
  rw[Bool.and_eq_true] at hc
  have e2:=dG hc.1;have e3:=dG hc.2
  rw[e3] at h2
  have hp:dI E.P t (bB ss) (off+i.toNat)=some (.agg (((v.l.drop i.toNat).take m).map (V.int k))):=by
   unfold dI;rw[h3,h2];simp only[Option.bind_some]
   unfold mq
   rw[if_pos rfl,if_pos (by rw[fQ,e1,wV,w1,Jq];show off+i.toNat+m≤off+(n+_);omega)]
   rw[e1,VI w1,Jp]
   show some (V.agg ((((v.l.map (V.int k))++bB post).drop i.toNat).take m))=_
   rw[List.drop_append_of_le_length (by rw[List.length_map,v.h];omega),List.take_append_of_le_length (by rw[List.length_drop,List.length_map,v.h];omega),List.map_take,List.map_drop]
  refine⟨_,hp, ?_⟩
  have hl:((v.l.drop i.toNat).take m).length=m:=by rw[List.length_take,List.length_drop,v.h];omega
  split at hs
  ·cases hs
   unfold Rl
   show V.agg _= .agg (((v.slc i m).l.map (V.int k))++[])
   unfold Vec.slc
   rw[EC hl,List.append_nil]
  ·cases hs
   unfold Rl
   refine⟨_,rfl, ?_⟩
   have:=afb (l:=v.l) (a:=i.toNat) (m:=m) (by rw[v.h];exact hi)
   have e:(List.range m).map (fun j=>TV.int (T:=R.T) k (v.nth (i.toNat+j)))=((v.l.drop i.toNat).take m).map (TV.int k):=by
    rw[←this,List.map_map];rfl
   rw[e];exact O6 k _
 ·cases hs
def kW:List iX→Nat
 | []=>0
 |.i _::l=>1+kW l
 |.a _ n::l=>n+kW l
theorem Jr:∀ss:List Sg,kW (ss.map Sg.sk)=iO ss
 | []=>rfl
 |.i k x::l=>by show 1+kW (l.map Sg.sk)=1+iO l;rw[Jr l]
 |.a k n v::l=>by show n+kW (l.map Sg.sk)=n+iO l;rw[Jr l]
theorem afd:∀{ks:List iX} {cs:List (TV R.T)} {ss:List Sg} {vs:List V},wL ks cs=some ss→aC R ρ top cs vs→vs=bB ss∧iO ss=kW ks:=by
 intro ks
 induction ks with
 |nil=>
  intro cs ss vs h hr
  cases cs with
  |nil=>cases h;exact⟨hr.eT,rfl⟩
  |cons c cs=>cases h
 |cons k ks ih=>
  intro cs ss vs h hr
  cases k with
  |i k=>
   cases cs with
   |nil=>cases h
   |cons c cs=>
    obtain⟨v,ws,rfl,h1,h2⟩:=hr.dB
    cases c<;>first| (exact absurd (show none=some ss from h) (by simp))|skip
    rename_i k' x
    have h':(if k'=k then (match wL ks cs with
     |some r=>some (Sg.i k x::r)
     |none=>none) else none)=some ss:=h
    by_cases e:k'=k
    ·subst e
     rw[if_pos rfl] at h'
     cases hc:wL ks cs with
     |none=>rw[hc] at h';cases h'
     |some r=>
      rw[hc] at h';cases h'
      obtain⟨g1,g2⟩:=ih hc h2
      exact⟨by rw[h1.fG,g1];rfl,by show 1+iO r=1+kW ks;rw[g2]⟩
    ·rw[if_neg e] at h';cases h'
  |a k n=>
   have h':(match wD k (cs.take n) with
    |some xs=>bif Nat.beq xs.length n then (match wL ks (cs.drop n) with
     |some r=>some (Sg.a k n (Vec.lit n xs)::r)
     |none=>none) else none
    |none=>none)=some ss:=by cases cs<;>exact h
   cases hx:wD k (cs.take n) with
   |none=>rw[hx] at h';cases h'
   |some xs=>
    rw[hx] at h'
    dsimp only at h'
    obtain⟨hb,h'⟩:=cZ h'
    have hb:=dG hb
    cases hc:wL ks (cs.drop n) with
    |none=>rw[hc] at h';cases h'
    |some r=>
     rw[hc] at h';cases h'
     obtain⟨g1,g2⟩:=ih hc (hr.drop n)
     have g3:=Jl hx (hr.take n)
     refine⟨?_,by show n+iO r=n+kW ks;rw[g2]⟩
     show vs=(Vec.lit n xs).l.map (V.int k)++bB r
     rw[EC hb,←g3,←g1,List.take_append_drop]
theorem O8:∀{a b:List iX},AY a b=true→a=b
 | [],[],_=>rfl
 |.i k::l,.i k'::l',h=>by
  have h':((if k=k' then true else false)&& AY l l')=true:=h
  rw[Bool.and_eq_true] at h'
  have e:k=k':=by by_cases e:k=k';exact e;rw[if_neg e] at h';cases h'.1
  rw[e,O8 h'.2]
 |.a k n::l,.a k' n'::l',h=>by
  have h':((if k=k' then true else false)&& Nat.beq n n'&& AY l l')=true:=h
  rw[Bool.and_eq_true,Bool.and_eq_true] at h'
  have e:k=k':=by by_cases e:k=k';exact e;rw[if_neg e] at h';cases h'.1.1
  rw[e,dG h'.1.2,O8 h'.2]
 | [],.i _::_,h=>by cases h
 | [],.a _ _::_,h=>by cases h
 |.i _::_,[],h=>by cases h
 |.a _ _::_,[],h=>by cases h
 |.i _::_,.a _ _::_,h=>by cases h
 |.a _ _::_,.i _::_,h=>by cases h
theorem ED:∀ss:List Sg,bf (bB ss)=true
 | []=>rfl
 |.i k x::l=>by show (oneCell (.int k x)&& bf (bB l))=true;rw[ED l];rfl
 |.a k n v::l=>by
  show bf (v.l.map (V.int k)++bB l)=true
  have h1:=ED l
  unfold bf at h1⊢
  rw[List.all_append,h1,List.all_map];simp[oneCell]
theorem VN {ks:List iX} {tv:TV R.T} {ss:List Sg} {v:V} (h:IL ks tv=some ss) (hr:Rl R ρ top tv v):v.cells=bB ss∧iO ss=kW ks∧cu v=true:=by
 unfold IL at h
 split at h
 ·rename_i ss'
  obtain⟨h1,h⟩:=cZ h
  cases h
  rw[hr.Eo,O8 h1]
  exact⟨rfl,(Jr ss).symm,rfl⟩
 ·obtain⟨l,rfl,hl⟩:=hr.jN
  obtain⟨h1,h2⟩:=afd h hl
  exact⟨h1,h2,rfl⟩
 ·rename_i k x
  split at h
  ·split at h
   ·rename_i e;subst e;cases h
    rw[hr.fG];exact⟨rfl,rfl,rfl⟩
   ·cases h
  ·cases h
 ·cases h
theorem O9 {k:IntKind}:∀{cs:List (TV R.T)} {vs:List V},xY k cs=true→aC R ρ top cs vs→vs=List.replicate cs.length (V.int k 0)
 | [],vs,_,hr=>hr.eT
 |c::cs,vs,h,hr=>by
  obtain⟨v,ws,rfl,h1,h2⟩:=hr.dB
  cases c<;>first| (exact absurd (show false=true from h) (by simp))|skip
  rename_i k' x
  have h':((if k'=k then (if x=0 then true else false) else false)&& xY k cs)=true:=h
  rw[Bool.and_eq_true] at h'
  have e1:k'=k:=by by_cases e:k'=k;exact e;rw[if_neg e] at h';cases h'.1
  have e2:x=0:=by by_cases e:x=0;exact e;rw[if_pos e1,if_neg e] at h';cases h'.1
  rw[h1.fG,e1,e2,O9 h'.2 h2];rfl
theorem afe:∀{ks:List iX} {cs:List (TV R.T)} {vs:List V},AX ks cs=true→aC R ρ top cs vs→vs=bB (ks.map IK):=by
 intro ks
 induction ks with
 |nil=>
  intro cs vs h hr
  cases cs with
  |nil=>exact hr.eT
  |cons c cs=>cases h
 |cons k ks ih=>
  intro cs vs h hr
  cases k with
  |i k=>
   cases cs with
   |nil=>cases h
   |cons c cs=>
    obtain⟨v,ws,rfl,h1,h2⟩:=hr.dB
    have h':(xY k [c]&& AX ks cs)=true:=h
    rw[Bool.and_eq_true] at h'
    have:=O9 h'.1 (aC.cons' h1 aC.nil')
    cases this
    rw[ih h'.2 h2];rfl
  |a k n=>
   have h':(Nat.ble n cs.length&& xY k (cs.take n)&& AX ks (cs.drop n))=true:=by cases cs<;>exact h
   rw[Bool.and_eq_true,Bool.and_eq_true] at h'
   have h1:=Nat.le_of_ble_eq_true h'.1.1
   have h2:=O9 h'.1.2 (hr.take n)
   have h3:=ih h'.2 (hr.drop n)
   rw[←List.take_append_drop n vs,h2,h3,List.length_take,Nat.min_eq_left h1]
   show _=(List.replicate n (0:Int)).map (V.int k)++bB (ks.map IK)
   rw[List.map_replicate]
theorem aff {pre mid post mid':List Sg} {off sz:Nat} (h1:iO pre=off) (h2:iO mid=sz) (h3:iO mid'=sz):eO (bB (pre++(mid++post))) off (bB mid')=bB (pre++(mid'++post)):=by
 unfold eO
 rw[oH,oH,oH,oH,fQ,h3]
 rw[List.take_append_of_le_length (by rw[fQ,h1];exact Nat.le_refl _),List.take_of_length_le (by rw[fQ,h1];exact Nat.le_refl _)]
 rw[←List.append_assoc (bB pre) (bB mid),List.drop_append_of_le_length (by rw[List.length_append,fQ,fQ,h1,h2];exact Nat.le_refl _),List.drop_of_length_le (by rw[List.length_append,fQ,fQ,h1,h2];exact Nat.le_refl _)]
 rw[List.nil_append,List.append_assoc]
theorem VO {pre post:List Sg} {off n a:Nat} {k:IntKind} {v w:Vec n} {l:List Int} (h1:iO pre=off) (h2:a+l.length≤n) (h3:w.l=v.l.take a++l++v.l.drop (a+l.length)):eO (bB (pre++(.a k n v::post))) (off+a) (l.map (V.int k))=bB (pre++(.a k n w::post)):=by
 unfold eO
 rw[oH,oH,Jp,Jp]
 show ((bB pre++(v.l.map (V.int k)++bB post)).take (off+a)++l.map (V.int k)++(bB pre++(v.l.map (V.int k)++bB post)).drop (off+a+(l.map (V.int k)).length))=bB pre++(w.l.map (V.int k)++bB post)
 have hp:(bB pre).length=off:=by rw[fQ,h1]
 have hv:(v.l.map (V.int k)).length=n:=by rw[List.length_map,v.h]
 rw[List.length_map]
 rw[List.take_append,List.take_of_length_le (by omega),hp,Nat.add_sub_cancel_left,List.take_append_of_le_length (by omega)]
 rw[List.drop_append,List.drop_of_length_le (by omega),hp,List.nil_append,show off+a+l.length-off=a+l.length by omega,List.drop_append_of_le_length (by omega)]
 rw[h3,List.map_append,List.map_append,List.map_take,List.map_drop]
 simp only[List.append_assoc]
theorem afg {l:List Int} {a:Nat} {y:Int} (h:a<l.length):l.set a y=l.take a++[y]++l.drop (a+1):=by
 rw[List.set_eq_take_append_cons_drop,if_pos h];simp
theorem Pb {g:Nat} {t:TypeId} {k:IntKind} {n:Nat} {v:Vec n} (h:IW E R g t=some ⟨k,n,v⟩):∃cs e,E.glob g=some cs∧cs=v.l.map (V.int k)∧oP E.P t=some (n,e)∧bC E.P t=some n∧gH E.P t=some true∧oD E e=true:=by
 unfold IW at h
 split at h
 ·rename_i cs k' n' v' m e sz ag h1 h2 h3 h4 h5
  obtain⟨hc,h⟩:=cZ h
  cases h
  simp only[Bool.and_eq_true] at hc
  obtain⟨⟨⟨⟨c1,c2⟩,c3⟩,c4⟩,c5⟩:=hc
  subst c1
  rw[dG c2] at h3;rw[dG c3] at h4
  refine⟨cs,e,h1, ?_,h3,h4,h5,c4⟩
  have key:∀(cs:List V) (l:List Int),IU k cs l=true→cs=l.map (V.int k):=by
   intro cs
   induction cs with
   |nil=>intro l h;cases l with
    |nil=>rfl
    |cons y l=>cases h
   |cons c cs ih=>
    intro l h
    cases l with
    |nil=>cases c<;>cases h
    |cons y l=>
     cases c<;>first| (exact absurd (show false=true from h) (by simp))|skip
     rename_i k' x
     have h':((if k'=k then (if x=y then true else false) else false)&& IU k cs l)=true:=h
     rw[Bool.and_eq_true] at h'
     have e1:k'=k:=by by_cases e:k'=k;exact e;rw[if_neg e] at h';cases h'.1
     have e2:x=y:=by by_cases e:x=y;exact e;rw[if_pos e1,if_neg e] at h';cases h'.1
     rw[e1,e2,ih l h'.2];rfl
  exact key cs v.l c5
 ·cases h
theorem Js {i:Int} {n:Nat} (h:dQ i n=true):0≤i∧i<n∧i.toNat<n:=by
 have:=of_decide_eq_true h
 omega
theorem Pd {k:IntKind} {i:Int} {n:Nat} (h:dQ i n=true):idx (.int k i) n=some i.toNat:=by
 obtain⟨h1,h2,_⟩:=Js h
 simp[idx,kU,h1,h2]
theorem Jt {k:IntKind} {i:Int} {n:Nat} (h1:0≤i) (h2:i≤n):bnd (.int k i) n=some i.toNat:=by
 simp[bnd,kU,h1,h2]
theorem VP {n:Nat} {lo hi:Option Int} {vl vh:Option V} (hl:(lo=none∧vl=none)∨∃n k,lo=some n∧vl=some (.int k n)) (hh:(hi=none∧vh=none)∨∃n k,hi=some n∧vh=some (.int k n)) (hb:l6 n lo hi=true):
 jm n n vl vh none=some ((cO lo).toNat,(fu n hi).toNat,n):=by
 rcases hl with ⟨rfl,rfl⟩| ⟨a,k,rfl,rfl⟩<;>rcases hh with ⟨rfl,rfl⟩| ⟨c,k',rfl,rfl⟩<;>simp only[l6,decide_eq_true_eq] at hb
 ·simp[jm,cO,fu]
 ·simp[jm,cO,fu,Jt hb.1 hb.2]
 ·simp[jm,cO,fu,Jt (i:=a) (n:=n) hb.1 (by omega)]
 ·simp[jm,cO,fu,Jt (i:=c) (n:=n) (by omega) hb.2.2.1,Jt (i:=a) (n:=c.toNat) hb.1 (by omega)]
theorem afh {P:Program} {t e:TypeId} {y:V} {ys cs:List V} {loc:Aq.Loc} {s off len cap:Nat} {ag:Bool} (he:iw P t=some e) (z1:bC P e=some 1) (z2:gH P e=some false) (q2:tK y=false) (q1:jE σ false 1 aD y=some ys) (hone:ys.all (fun v=>bf v.cells)=true)
 (h4:σ.bK loc s=some cs) (hb:off+min ys.length len≤cs.length):copyV P σ t (.vw loc s off len cap 1 ag) y=some (.int .i64 (min ys.length len:Nat),σ.setObj loc s (.cells (eO cs off ((ys.take (min ys.length len)).flatMap V.cells)))):=by
 unfold copyV
 rw[he];simp only[Option.bind_some,z1,z2]
 rw[if_pos ⟨q2,rfl⟩,q1];simp only[Option.bind_some]
 rw[if_pos hone,h4];simp only[Option.bind_some]
 rw[if_pos ⟨trivial,by rw[Nat.mul_one];exact hb⟩]
theorem Ju {t:TypeId} {x:TV R.T} {lo hi:Option (TV R.T)} {v:V} {vl vh:Option V} {r:dA R} (h:wM E R t x lo hi st=some r) (hx:Rl R ρ σ.top x v) (him:aH ρ b st fr σ)
 (hl:∀y,lo=some y→∃w,vl=some w∧Rl R ρ σ.top y w) (hln:lo=none→vl=none) (hh:∀y,hi=some y→∃w,vh=some w∧Rl R ρ σ.top y w) (hhn:hi=none→vh=none):nO ρ σ.top (kF E.P σ t v vl vh none) r:=by
 unfold wM at h
 split at h
 ·rename_i p off lo' hi' n e e1 e2 ha
  have b1:=Bw e1 hl hln
  have b2:=Bw e2 hh hhn
  obtain⟨hel,h⟩:=cZ h
  obtain⟨z1,z2⟩:=wU hel
  obtain⟨s,h1,rfl⟩:=hx.nL
  have fin:∀(k:IntKind) (cs:List V),σ.bK (ρ.om.lc p) s=some cs→off+n≤cs.length→l6 n lo' hi'=true→∃y,kF E.P σ t (.ref (ρ.om.lc p) s off) vl vh none=some y∧Rl R ρ σ.top (.sv p off k n lo' hi') y:=by
   intro k cs hc hlen hB
   obtain⟨p1,p2,p3,_,_⟩:=yC hB
   refine⟨_, ?_,by unfold Rl;exact⟨s,h1,hB,rfl⟩⟩
   unfold kF
   rw[EB ha];dsimp only
   rw[z1,z2,VP b1 b2 hB,hc]
   simp only[Option.bind_some,Nat.mul_one]
   rw[if_pos hlen,if_neg (by omega)]
  split at h
  ·rename_i ss hl'
   obtain⟨s',h3,h4⟩:=him.rd hl'
   rw[h1] at h3;cases h3
   split at h
   ·rename_i pre k n' v' post hsp
    obtain⟨hb,h⟩:=cZ h
    have:=dG hb;subst this
    cases h
    obtain⟨e3,hw⟩:=tq hsp
    intro hc
    exact fin k _ h4 (by rw[fQ,e3,wV,hw,Jq];show off+n'≤off+(n'+_);omega) hc
   ·cases h
  ·rename_i cs hl'
   obtain⟨s',vs,h3,h4,h5⟩:=him.rd hl'
   rw[h1] at h3;cases h3
   split at h
   ·rename_i k _ _ _
    obtain⟨hb,h⟩:=cZ h
    cases h
    intro hc
    exact fin k _ h4 (by rw[h5.length];exact Nat.le_of_ble_eq_true hb) hc
   ·cases h
  ·cases h
 ·rename_i cs off n e e1 e2 ha
  have b1:=Bw e1 hl hln
  have b2:=Bw e2 hh hhn
  obtain⟨hb,h⟩:=cZ h
  rw[Bool.and_eq_true] at hb
  obtain⟨z1,z2⟩:=wU hb.1
  have hle:=Nat.le_of_ble_eq_true hb.2
  split at h
  ·rename_i k _ _ _
   split at h
   ·rename_i l hu
    cases h
    obtain⟨vs,rfl,hr⟩:=hx.sW
    have hv:=Jl hu hr
    have hlen:=hr.length
    have hsb:l6 n none none=true:=rfl
    refine⟨.aj .sh (((l.drop off).take n).map (V.int k)), ?_,by unfold Rl;exact⟨.sh,rfl,trivial⟩⟩
    unfold kF
    rw[EB ha];dsimp only
    rw[z1,z2,VP b1 b2 hsb]
    simp only[Option.bind_some,Nat.mul_one]
    have hn:off+n≤vs.length:=by rw[hlen];exact hle
    have e0:(cO none).toNat=0:=rfl
    have Pe:(fu n none).toNat=n:=by simp[fu]
    rw[if_pos ⟨hn,fun _=>⟨trivial,by rw[hv];unfold bf;rw[List.all_map];exact List.all_eq_true.2 fun _ _=>rfl⟩⟩,e0,Pe]
    have hl2:(List.take n (List.drop off l)).length=n:=by rw[hv,List.length_map] at hn;rw[List.length_take,List.length_drop];omega
    have:=O4 k ((l.drop off).take n) ((l.drop off).drop n|>.map (V.int k))
    rw[←List.map_append,List.take_append_drop,hl2] at this
    rw[hv,Nat.sub_zero,Nat.add_zero,←List.map_drop,this]
   ·cases h
  ·cases h
 ·cases h
end
end Aq
end
section
namespace Aq
open Go
set_option linter.unusedSectionVars false
set_option linter.unusedVariables false
section
variable {R:gM} {E:Env}
variable {ρ:aL} {top:Nat→Nat} {b aB:Nat} {st:MS R.T} {fr:Fr} {σ:ah} {o:Oper}
theorem rW.val {v:Option V} {r:dA R} (hv:nO ρ σ.top v r) (ho:∀y,v=some y→aW E fr σ aB o=some (y,σ)):rW E st ρ aB fr σ o r:=by
 cases r with
 |t x=>obtain⟨y,e,hr⟩:=hv;exact⟨y,.iq (ho y e),hr⟩
 |c c x=>intro hc;obtain⟨y,e,hr⟩:=hv hc;exact⟨y,.iq (ho y e),hr⟩
 |p α d o' f=>intro a ha;obtain⟨y,e,hr⟩:=hv a ha;exact⟨y,.iq (ho y e),hr⟩
 |w x s=>exact hv.elim
 |wc c x s=>exact hv.elim
theorem rW.tt {x:TV R.T} {y:V} (ho:aW E fr σ aB o=some (y,σ)) (hr:Rl R ρ σ.top x y):rW E st ρ aB fr σ o (.t x):=⟨y,.iq ho,hr⟩
theorem EF {x:Operand}:gJ E fr (some x)=some (fr.ev E x):=rfl
theorem VQ {top:Nat→Nat} {x y v:TV R.T} {w:V} (h:AV true x y=some v) (hx:Rl R ρ top x w):Rl R ρ top v w:=by
 unfold AV at h
 split at h<;>try cases h
 ·split at h
  ·cases h;exact hx
  ·cases h
 all_goals first|exact hx| (unfold Rl at hx⊢;exact hx)
theorem VR {top:Nat→Nat} {x y v:TV R.T} {w:V} (h:AV false x y=some v) (hx:Rl R ρ top y w):Rl R ρ top v w:=by
 unfold AV at h
 split at h<;>try cases h
 ·split at h
  ·rename_i e;subst e;cases h;exact hx
  ·cases h
 all_goals first|exact hx| (unfold Rl at hx⊢;exact hx)
theorem BG {c a' b':Operand} {t:Bool} (hop:o.op= .pick c a' b') (hc:fr.ev E c= .bool t):aW E fr σ aB o=some (if t then fr.ev E a' else fr.ev E b',σ):=by
 simp only[aW,hop,hc,mZ,Option.map_some]
variable (hR:mQ R)
include hR
theorem afi {t:TypeId} {m x:TV R.T} {v w:V} {ok:Bool} {r:dA R} (h:IE E R t m x ok st=some r) (hm:Rl R ρ σ.top m v) (hx:Rl R ρ σ.top x w) (hi:aH ρ b st fr σ):nO ρ σ.top (tJ E.P σ t v w ok) r:=by
 unfold IE at h
 split at h
 ·rename_i o
  split at h
  ·rename_i k e m hl
   obtain⟨s,h1,rfl⟩:=hm.vg
   obtain⟨s',h2,h3⟩:=hi.rd hl
   rw[h1] at h2;cases h2
   exact OL hR h hx h3
  ·cases h
 ·rename_i k e m
  exact OL hR h hx (by rw[hm.Bj];rfl)
 ·split at h
  ·split at h
   ·unfold Rl at hm;subst hm
    exact OL hR h hx rfl
   ·cases h
  ·cases h
 ·cases h
omit hR in
theorem VT {top:Nat→Nat} {x y:TV R.T} {v w:V} {r:Bool} (h:IG x y=some r) (hx:Rl R ρ top x v) (hy:Rl R ρ top y w):lq v w=some r:=by
 unfold IG at h
 split at h
 ·rw[hx.fG,hy.fG];exact h
 ·cases h;rw[hx.lM,hy.lM];rfl
 ·cases h
omit hR in
theorem VU {top:Nat→Nat} {t:TypeId} {x:TV R.T} {v:V} (h:II E t x=true) (hx:Rl R ρ top x v):j6 E.P t v=true:=by
 unfold II at h
 split at h
 ·rename_i hu;rw[hx.fG];unfold j6;rw[hu]
 ·rename_i hu;rw[hx.lM];unfold j6;rw[hu]
 ·cases h
omit hR in
theorem VW {top:Nat→Nat} {x y:TV R.T} {v w:V} (hx:Rl R ρ top x v) (hy:Rl R ρ top y w):∀{ks vs:List (TV R.T)} {ks' vs':List (TV R.T)} {k l:List V},IJ x y ks vs=some (ks',vs')→aC R ρ top ks k→aC R ρ top vs l→
 ∃k' l',tH v w k l=some (k',l')∧aC R ρ top ks' k'∧aC R ρ top vs' l'
 | [],[],_,_,k,l,h,h1,h2=>by
   cases h
   rw[h1.eT,h2.eT]
   exact⟨_,_,rfl,.cons' hx rfl,.cons' hy rfl⟩
 | [],_::_,_,_,_,_,h,_,_=>by cases h
 |_::_,[],_,_,_,_,h,_,_=>by cases h
 |a::ks,b::vs,ks',vs',k,l,h,h1,h2=>by
  obtain⟨k0,k,rfl,g1,g2⟩:=h1.dB
  obtain⟨l0,l,rfl,g3,g4⟩:=h2.dB
  unfold IJ at h
  split at h
  ·rename_i c hc
   have he:=VT hc hx g1
   cases c with
   |true=>cases h;exact⟨v::k,w::l,by simp[tH,he],.cons' hx g2,.cons' hy g4⟩
   |false=>
    rw[cond_false] at h
    split at h
    ·rename_i ks1 vs1 hs
     cases h
     obtain⟨k',l',e1,e2,e3⟩:=VW hx hy hs g2 g4
     exact⟨k0::k',l0::l',by simp[tH,he,e1],.cons' g1 e2,.cons' g3 e3⟩
    ·cases h
  ·cases h
theorem VX {t:TypeId} {m x y:TV R.T} {v w u:V} {r:dA R} (h:AO E R t m x y st=some r) (hm:Rl R ρ σ.top m v) (hx:Rl R ρ σ.top x w) (hy:Rl R ρ σ.top y u) (hi:aH ρ aB st fr σ)
 (ho:∀σ',oQ E.P σ t v w u=some σ'→aW E fr σ aB o=some (aD,σ')):rW E st ρ aB fr σ o r:=by
 unfold AO at h
 split at h
 ·rename_i p
  split at h
  ·rename_i k e m hl
   split at h
   ·rename_i kt et ht
    obtain⟨hk,h⟩:=cZ h
    split at h
    ·rename_i a c ha hc
     cases h
     obtain⟨s,h1,rfl⟩:=hm.vg
     obtain⟨s',h2,h3⟩:=hi.ob _ _ hl
     rw[h1] at h2;cases h2
     have hw:=Vl hR hk ha hx
     subst hw
     unfold Uh at hc
     obtain⟨hs,hc⟩:=cZ hc
     have hu:u=aG R e c:=by
      have h4:=Oq hR hc hy
      have h5:=Jo hR y u hs hy
      have h6:=h4.2.2.1 0 σ
      rw[jA h5] at h6
      exact Option.some.inj h6
     subst hu
     have hup:oQ E.P σ t (.bD (ρ.om.lc p) s) (aG R k a) (aG R e c)=some (σ.setObj (ρ.om.lc p) s (.map ((wJ (kM R k) a c m).map fun q=>aG R k q.1) ((wJ (kM R k) a c m).map fun q=>aG R e q.2))):=by
      unfold oQ
      rw[ht];simp only[Option.bind_some]
      rw[if_pos (Jf hR hk a a).2,h3]
      simp only[Option.bind_some]
      rw[Vk hR hk a c m];rfl
     refine⟨aD,_,ρ,.iq (ho _ hup),(hi.le (Nat.le_succ _)).set p s ⟨s,h1,map_eq _ _ _ _ _⟩,rfl,by unfold Rl;rfl,fun q _=>aT.set hl rfl⟩
    ·cases h
   ·cases h
  ·rename_i ks vs hl
   split at h
   ·rename_i kt et ht
    obtain⟨hk,h⟩:=cZ h
    split at h
    ·rename_i ks' vs' hs
     cases h
     obtain⟨s,h1,rfl⟩:=hm.vg
     obtain⟨s',k0,l0,h2,h3,h4,h5⟩:=hi.ob _ _ hl
     rw[h1] at h2;cases h2
     obtain⟨k1,l1,g1,g2,g3⟩:=VW hx hy hs h4 h5
     have hup:oQ E.P σ t (.bD (ρ.om.lc p) s) w u=some (σ.setObj (ρ.om.lc p) s (.map k1 l1)):=by
      unfold oQ
      rw[ht];simp only[Option.bind_some]
      rw[if_pos (VU hk hx),h3]
      simp only[Option.bind_some]
      rw[g1];rfl
     refine⟨aD,_,ρ,.iq (ho _ hup),(hi.le (Nat.le_succ _)).set p s ⟨s,k1,l1,h1,map_eq _ _ _ _ _,g2,g3⟩,rfl,by unfold Rl;rfl,fun q _=>aT.set hl rfl⟩
    ·cases h
   ·cases h
  ·cases h
 ·cases h
omit hR in
theorem aH.at (h:aH ρ b st fr σ) {d:Nat} (hd:d<F0):(fr.d,d)=ρ.om.lc d:=by rw[h.d,Cx.ad7 _ hd]
omit hR in
theorem aH.VY (h:aH ρ b st fr σ) {x:Option Nat} (hd:∀d,x=some d→d<F0):(x.map fun t=>(fr.d,t))=x.map fun t=>ρ.om.lc t:=by
 cases x with
 |none=>rfl
 |some d=>exact congrArg some (h.at (hd d rfl))
theorem VZ {d s:Nat} {cs:List (TV R.T)} {l:List V} (hi:aH ρ b st fr σ) (hc:aC R ρ σ.top cs l) (hm:lG d cs=false):aH (ρ.kN d s) b (st.new d (.cells cs)) fr (σ.setObj (ρ.om.lc d) s (.cells l)):=
 hi.new d s ⟨s,l,rV,tX _ _ _ _,aC.kill d Bq rfl rfl cs l hm hc⟩
theorem V3 {d s:Nat} {ss:List Sg} (hi:aH ρ b st fr σ):aH (ρ.kN d s) b (st.new d (.sg ss)) fr (σ.setObj (ρ.om.lc d) s (.cells (bB ss))):=
 hi.new d s ⟨s,rV,tX _ _ _ _⟩
theorem Pf {g:Nat} {cs:List V} (h:E.glob g=some cs):fr.ev E (.global g)= .aK cs 0:=by
 show (match E.glob g with|some cs=>V.aK cs 0|none=>V.raw (Value.pointer (some ⟨g,0,none⟩)))=_
 rw[h]
omit hR in
theorem V4 {top:Nat→Nat} {k:IntKind} (l:List Int):∀L:List Nat,aC R ρ top (L.map fun j=>(TV.int k (l.getD j 0):TV R.T)) (L.map fun j=>V.int k (l.getD j 0))
 | []=>aC.nil'
 |j::L=>aC.cons' (by unfold Rl;rfl) (V4 l L)
omit hR in
theorem afj {k:IntKind} {l:List Int} {m:Nat} (h:m≤l.length):((List.range m).map fun j=>V.int k (l.getD j 0))=(l.map (V.int k)).take m:=by
 apply List.ext_getElem
 ·rw[List.length_map,List.length_range,List.length_take,List.length_map];omega
 ·intro i h1 h2
  rw[List.length_map,List.length_range] at h1
  rw[List.getElem_map,List.getElem_range,List.getElem_take,List.getElem_map,List.getD_eq_getElem?_getD,List.getElem?_eq_getElem (show i<l.length by omega)]
  rfl
theorem afk {g:List (Nat×Bool)} (eF:∀d,o.dst=some d→d<F0) (hg:nM fr g) (hi:aH ρ aB st fr σ) {r:dA R} (h:oF E R g o.dst o.op st=some r):rW E st ρ aB fr σ o r:=by
 unfold oF at h
 split at h
 ·
  rename_i t hop
  split at h
  ·rename_i d ks cs hd hks hz
   obtain⟨hc,h⟩:=cZ h
   cases h
   obtain⟨v,hv,hr⟩:=Bv (ρ:=ρ) (top:=σ.top) hz
   obtain⟨l,rfl,hl⟩:=hr.jN
   have hl2:=afe hc hl
   refine⟨.ref (ρ.om.lc d) aB 0,_,ρ.kN d aB,.iq (o:=o) ?_,V3 hR (ss:=ks.map IK) (hi.le (Nat.le_succ _)),rfl,by unfold Rl;exact⟨aB,rV,rfl⟩,fun q hq=>aT.new (fun e=>hq (by rw[hd,e]))⟩
   simp only[aW,hop,hd,Option.map_some,Option.bind_some,hv,V.cells,hl2,ED,if_true,hi.at (eF _ hd)]
  ·cases h
 ·
  rename_i t x hop
  cases hz:E.tN t
  case true=>rw[hz] at h;cases h
  rw[hz,cond_false] at h
  split at h
  ·rename_i d ks v hd hks hv
   split at h
   ·rename_i ss hss
    cases h
    obtain⟨c1,c2,c3⟩:=VN hss (aV (E:=E) hi hg hv)
    refine⟨.ref (ρ.om.lc d) aB 0,_,ρ.kN d aB,.iq (o:=o) ?_,V3 hR (ss:=ss) (hi.le (Nat.le_succ _)),rfl,by unfold Rl;exact⟨aB,rV,rfl⟩,fun q hq=>aT.new (fun e=>hq (by rw[hd,e]))⟩
    simp only[aW,hop,hz,Bool.false_eq_true,if_false,hd,Option.map_some,Option.bind_some,c1,c3,ED,and_self,if_true,hi.at (eF _ hd)]
   ·cases h
  ·cases h
 ·
  rename_i t a hop
  split at h
  ·rename_i gl
   split at h
   ·rename_i k n v hv
    cases h
    obtain⟨cs,e,g1,g2,g3,g4,g5,g6⟩:=Pb hv
    refine .tt (y:=.agg (v.l.map (V.int k))) ?_ ?_
    ·simp only[aW,hop,Pf hR g1]
     unfold dI;rw[g4,g5];simp only[Option.bind_some]
     unfold mq
     rw[if_pos rfl,if_pos (by rw[g2,List.length_map,v.h];omega),List.drop_zero,List.take_of_length_le (by rw[g2,List.length_map,v.h];exact Nat.le_refl _),g2];rfl
    ·unfold Rl;show _=V.agg (v.l.map (V.int k)++[]);rw[List.append_nil]
   ·cases h
  ·split at h
   ·rename_i p off hv
    split at h
    ·rename_i ss hl
     split at h
     ·rename_i v hld
      cases h
      obtain⟨s,h1,h2⟩:=(aV (E:=E) hi hg hv).nL
      obtain⟨s',h3,h4⟩:=hi.rd hl
      rw[h1] at h3;cases h3
      obtain⟨y,hy,hr⟩:=VJ (ρ:=ρ) (top:=σ.top) hld
      exact .tt (by simp only[aW,hop,h2,h4,Option.bind_some,hy,Option.map_some]) hr
     ·cases h
    ·cases h
   ·rename_i p off k n i m hv
    split at h
    ·rename_i ss hl
     obtain⟨s,h1,hi0,hi1,h2⟩:=(aV (E:=E) hi hg hv).Ep
     obtain⟨s',h3,h4⟩:=hi.rd hl
     rw[h1] at h3;cases h3
     split at h
     ·rename_i pre k' n' v post hsp
      by_cases ek:k'=k
      ·subst ek
       rw[if_pos rfl] at h
       cases hb:Nat.beq n' n
       ·rw[hb] at h;cases h
       rw[hb,cond_true] at h
       have:=dG hb;subst this
       cases hc:(Nat.beq m 1&& oD E t)
       ·rw[hc,cond_false] at h
        split at h
        ·rename_i y hy
         cases h
         obtain⟨x,g1,g2⟩:=afc (ρ:=ρ) (top:=σ.top) hsp hi1 hy
         exact .tt (by simp only[aW,hop,h2,h4,Option.bind_some,g1,Option.map_some]) g2
        ·cases h
       ·rw[hc,cond_true] at h
        cases h
        rw[Bool.and_eq_true] at hc
        have:=dG hc.1;subst this
        exact .tt (y:=.int k' (v.at' i)) (by simp only[aW,hop,h2,h4,Option.bind_some,VL (i:=i) hsp (Nat.lt_of_lt_of_le (Nat.lt_succ_self _) hi1) hc.2,Option.map_some]) (by unfold Rl;rfl)
      ·rw[if_neg ek] at h;cases h
     ·cases h
    ·cases h
   ·rename_i k n v i hv
    obtain⟨he,h⟩:=cZ h
    cases h
    obtain⟨h1,h2,h3⟩:=(aV (E:=E) hi hg hv).I7
    obtain⟨z1,z2⟩:=wU he
    refine .tt (y:=.int k (v.at' i)) ?_ (by unfold Rl;rfl)
    simp only[aW,hop,h3]
    unfold dI;rw[z1,z2];simp only[Option.bind_some]
    unfold mq;simp only[Bool.false_eq_true,if_false]
    rw[List.getElem?_map,VK v (by omega)];rfl
   ·cases h
 ·
  rename_i t a x hop
  split at h
  ·rename_i p off v hv hx
   split at h
   ·rename_i ss sz hl hsz
    split at h
    ·rename_i pre rest hsp
     split at h
     ·rename_i mid post hsp2
      split at h
      ·rename_i mid' hco
       cases h
       obtain⟨s,h1,h2⟩:=(aV (E:=E) hi hg hv).nL
       obtain⟨s',h3,h4⟩:=hi.ob _ _ hl
       rw[h1] at h3;cases h3
       obtain⟨c1,c2,c3⟩:=VN hco (aV (E:=E) hi hg hx)
       obtain⟨e1,w1⟩:=tq hsp
       obtain⟨e2,w2⟩:=tq hsp2
       rw[Jr,w2] at c2
       refine⟨aD,_,ρ,.iq (o:=o) ?_,(hi.le (Nat.le_succ _)).set p s (x:=.sg (pre++(mid'++post))) (a:=.cells (bB (pre++(mid'++post)))) ⟨s,h1,tX _ _ _ _⟩,rfl,by unfold Rl;rfl,fun q _=>aT.set hl rfl⟩
       simp only[aW,hop,h2,h4,Option.bind_some,c1]
       rw[if_pos ⟨by rw[hsz,fQ,c2],by rw[fQ,fQ,e1,e2,wV,wV,w1,w2,c2];omega,ED _⟩,e1,e2,aff w1 w2 c2]
      ·cases h
     ·cases h
    ·cases h
   ·cases h
  ·rename_i p off k n i m k' y hv hx
   split at h
   ·rename_i ss hl
    split at h
    ·rename_i pre k2 n' v post hsp
     by_cases ek:k2=k
     ·subst ek
      rw[if_pos rfl] at h
      by_cases V5:k'=k2
      ·subst V5
       rw[if_pos rfl] at h
       obtain⟨hb,h⟩:=cZ h
       cases h
       rw[Bool.and_eq_true,Bool.and_eq_true] at hb
       have e1:=dG hb.1.1;subst e1
       have e2:=dG hb.1.2;subst e2
       obtain⟨z1,z2⟩:=wU hb.2
       obtain⟨s,h1,hi0,hi1,h2⟩:=(aV (E:=E) hi hg hv).Ep
       obtain⟨s',h3,h4⟩:=hi.ob _ _ hl
       rw[h1] at h3;cases h3
       have hy:=(aV (E:=E) hi hg hx).fG
       obtain⟨e1,w1⟩:=tq hsp
       refine⟨aD,_,ρ,.iq (o:=o) ?_,(hi.le (Nat.le_succ _)).set p s (x:=.sg (pre++(.a k' n' (v.set i y)::post))) (a:=.cells (bB (pre++(.a k' n' (v.set i y)::post)))) ⟨s,h1,tX _ _ _ _⟩,rfl,by unfold Rl;rfl,fun q _=>aT.set hl rfl⟩
       simp only[aW,hop,h2,h4,Option.bind_some,hy,V.cells]
       have afl:=VO (post:=post) (k:=k') (v:=v) (w:=v.set i y) (l:=[y]) w1 (show i.toNat+[y].length≤n' from hi1) (afg (by rw[v.h];omega))
       rw[if_pos ⟨by rw[z1];rfl,by rw[fQ,e1,wV,w1,Jq];show off+i.toNat+1≤off+(n'+_);omega,rfl⟩,e1]
       rw[show [V.int k' y]=[y].map (V.int k') from rfl,afl]
      ·rw[if_neg V5] at h;cases h
     ·rw[if_neg ek] at h;cases h
    ·cases h
   ·cases h
  ·cases h
 ·
  rename_i t x i hop
  split at h
  ·rename_i n e k0 i ha hiv
   obtain⟨hel,h⟩:=cZ h
   obtain⟨z1,z2⟩:=wU hel
   have hii:=(aV (E:=E) hi hg hiv).fG
   split at h
   ·rename_i gl
    split at h
    ·rename_i k n' v hv
     cases h
     intro hin
     obtain⟨cs,e',g1,g2,g3,g4,g5,g6⟩:=Pb hv
     rw[ha] at g3;cases g3
     obtain⟨j1,j2,j3⟩:=Js hin
     refine⟨.aK cs i.toNat,.iq ?_,by unfold Rl;exact⟨j1,j2,by rw[g2]⟩⟩
     simp only[aW,hop,Pf hR g1,hii]
     unfold lT
     rw[EB ha];dsimp only
     rw[z1];simp only[Option.bind_some,Pd hin,Option.map_some,Nat.mul_one,Nat.zero_add]
    ·cases h
   ·split at h
    ·rename_i p off hv
     split at h
     ·rename_i ss hl
      split at h
      ·rename_i pre k n' v post hsp
       obtain⟨hb,h⟩:=cZ h
       have:=dG hb;subst this
       cases h
       intro hin
       obtain⟨s,h1,h2⟩:=(aV (E:=E) hi hg hv).nL
       obtain⟨j1,j2,j3⟩:=Js hin
       refine⟨.ref (ρ.om.lc p) s (off+i.toNat),.iq ?_,by unfold Rl;exact⟨s,h1,j1,by omega,rfl⟩⟩
       simp only[aW,hop,h2,hii]
       unfold lT
       rw[EB ha];dsimp only
       rw[z1];simp only[Option.bind_some,Pd hin,Option.map_some,Nat.mul_one]
      ·cases h
     ·cases h
    ·cases h
  ·cases h
 ·
  rename_i t x i hop
  split at h
  ·rename_i n e k n' v k0 i ha hv hiv
   obtain⟨hb,h⟩:=cZ h
   cases h
   rw[Bool.and_eq_true] at hb
   have:=dG hb.2;subst this
   obtain⟨z1,z2⟩:=wU hb.1
   have hii:=(aV (E:=E) hi hg hiv).fG
   have hvv:=(aV (E:=E) hi hg hv).Eo
   intro hin
   obtain⟨j1,j2,j3⟩:=Js hin
   refine⟨.int k (v.at' i),.iq ?_,by unfold Rl;rfl⟩
   simp only[aW,hop,hvv,hii]
   unfold uO
   rw[EB ha];dsimp only
   rw[Pd hin];simp only[Option.bind_some,z1,Nat.mul_one]
   have:=VL (E:=E) (t:=e) (ss:=[.a k n' v]) (pre:=[]) (post:=[]) (off:=0) (i:=i) rfl j3 hb.1
   rw[Nat.zero_add] at this
   rw[this];rfl
  ·cases h
 ·
  rename_i t x lo hi' hop
  split at h
  ·rename_i v hv
   have kI:=aV (E:=E) hi hg hv
   have ho:∀vl vh,gJ E fr lo=vl→gJ E fr hi'=vh→∀y,kF E.P σ t (fr.ev E x) vl vh none=some y→aW E fr σ aB o=some (y,σ):=by
    rintro vl vh rfl rfl y hy
    simp only[aW,hop]
    rw[show gJ E fr none=none from rfl,hy];rfl
   split at h
   ·exact .val (Ju h kI hi (vl:=none) (vh:=none) (by intro y hy;cases hy) (fun _=>rfl) (by intro y hy;cases hy) (fun _=>rfl)) (ho _ _ rfl rfl)
   ·rename_i lo
    split at h
    ·rename_i l hl
     have hlr:=aV (E:=E) hi hg hl
     exact .val (Ju h kI hi (vl:=some (fr.ev E lo)) (vh:=none) (by intro y hy;cases hy;exact⟨_,rfl,hlr⟩) (by intro hy;cases hy) (by intro y hy;cases hy) (fun _=>rfl)) (ho _ _ rfl rfl)
    ·cases h
   ·rename_i hi'
    split at h
    ·rename_i l hl
     have hlr:=aV (E:=E) hi hg hl
     exact .val (Ju h kI hi (vl:=none) (vh:=some (fr.ev E hi')) (by intro y hy;cases hy) (fun _=>rfl) (by intro y hy;cases hy;exact⟨_,rfl,hlr⟩) (by intro hy;cases hy)) (ho _ _ rfl rfl)
    ·cases h
   ·rename_i lo hi'
    split at h
    ·rename_i l m hl hm
     have hlr:=aV (E:=E) hi hg hl
     have hmr:=aV (E:=E) hi hg hm
     exact .val (Ju h kI hi (vl:=some (fr.ev E lo)) (vh:=some (fr.ev E hi')) (by intro y hy;cases hy;exact⟨_,rfl,hlr⟩) (by intro hy;cases hy) (by intro y hy;cases hy;exact⟨_,rfl,hmr⟩) (by intro hy;cases hy)) (ho _ _ rfl rfl)
    ·cases h
  ·cases h
 ·
  rename_i t x lo hi' mx hop
  split at h
  ·rename_i cp u l kh hh Jv km e hv hvh hvm hu
   split at h
   ·rename_i sz hsz
    cases hb:Nat.beq sz (bI R u)
    ·rw[hb] at h;cases h
    rw[hb,cond_true] at h
    have:=dG hb;subst this
    obtain⟨c',h2,_⟩:=(aV (E:=E) hi hg hv).jO
    have eh:=(aV (E:=E) hi hg hvh).fG
    have em:=(aV (E:=E) hi hg hvm).fG
    have fin:∀(vl:Option V) (a:Nat) (L:List (Den R.T u)),gJ E fr lo=vl→jm l.length l.length vl (some (.int kh hh)) (some (.int Jv km))=some (a,hh.toNat,km.toNat)→(l.take hh.toNat).drop a=L→∃y,kP E fr σ aB o y σ∧Rl R ρ σ.top (.aj .any u L) y:=by
     rintro vl a L hvl hsb rfl
     refine⟨.aj (if km.toNat=hh.toNat then .full else .sh) (((l.map (aG R u)).take hh.toNat).drop a),.iq ?_, ?_⟩
     ·simp only[aW,hop,h2]
      rw[hvl,show gJ E fr (some hi')=some (.int kh hh) by rw[EF,eh],show gJ E fr (some mx)=some (.int Jv km) by rw[EF,em]]
      unfold kF
      rw[hu];dsimp only
      rw[hsz];simp only[Option.bind_some,List.length_map,hsb,Ew hR,if_true,Option.isNone_some,Bool.false_eq_true,and_false,if_false,Option.map_some]
     ·unfold Rl
      exact⟨_,by rw[OJ],trivial⟩
    split at h
    ·cases hf:Un E o.dst with
     |false=>
      rw[hf,cond_false] at h
      cases h
      intro hc
      rw[Bool.and_eq_true] at hc
      exact fin none 0 _ rfl (by simp[jm,pQ hc.1,pQ hc.2]) (by simp[oC])
     |true=>
      rw[hf,cond_true] at h
      cases h
      intro hc
      rw[Bool.and_eq_true,Bool.and_eq_true] at hc
      obtain⟨y,hy1,hy2⟩:=fin none 0 _ rfl (by simp[jm,pQ hc.1,pQ hc.2.1]) rfl
      have hkm:hh=km:=by simpa using hc.2.2
      subst hkm
      refine⟨.aj .full (((l.map (aG R u)).take hh.toNat).drop 0),.iq ?_, ?_⟩
      ·simp only[aW,hop,h2]
       rw[show gJ E fr none=none from rfl,show gJ E fr (some hi')=some (.int kh hh) by rw[EF,eh],show gJ E fr (some mx)=some (.int Jv hh) by rw[EF,em]]
       unfold kF
       rw[hu];dsimp only
       have hsb:jm l.length l.length none (some (.int kh hh)) (some (.int Jv hh))=some (0,hh.toNat,hh.toNat):=by simp[jm,pQ hc.1,pQ hc.2.1]
       rw[hsz];simp only[Option.bind_some,List.length_map,hsb,Ew hR,if_true,Option.isNone_some,Bool.false_eq_true,and_false,if_false,Option.map_some]
      ·unfold Rl
       exact⟨.full,by rw[OJ];simp[oC],rfl⟩
    ·rename_i lo'
     split at h
     ·rename_i ka a hva
      cases h
      intro hc
      rw[Bool.and_eq_true,Bool.and_eq_true] at hc
      have ea:=(aV (E:=E) hi hg hva).fG
      exact fin (some (.int ka a)) a.toNat _ (by rw[EF,ea]) (by simp[jm,pQ hc.1,pQ hc.2.1,pQ hc.2.2]) (by simp[oC])
     ·cases h
   ·cases h
  ·cases h
 ·
  rename_i a b' x hop
  split at h
  ·rename_i p off k n lo hi' hv
   obtain⟨s,h1,hB,h2⟩:=(aV (E:=E) hi hg hv).wQ
   split at h
   ·rename_i e hu1 hu2
    split at h
    ·rename_i hu3
     split at h
     ·rename_i l hl
      cases h
      obtain⟨cs,c1,c2,c3,c4⟩:=Vz hR hi hl h1 hB
      obtain⟨p1,p2,p3,_,_⟩:=yC hB
      refine .tt (y:=.str (List.map (fun n:Int=>UInt8.ofNat n.toNat) l)) ?_ (by unfold Rl;rfl)
      simp only[aW,hop,h2]
      unfold uN
      rw[hu1,hu2];dsimp only
      rw[hu3,c1];dsimp only
      simp only[Option.bind_some]
      rw[if_pos (by omega),c3]
      have:=OI (R:=R) l
      rw[show l.map (V.int .u8)=List.map (aG R (.int .u8)) l from rfl,this];rfl
     ·cases h
    ·cases h
   ·cases h
  ·cases h
 ·
  rename_i t x hop
  split at h
  ·rename_i m e p off k n lo hi' ha hv
   cases h
   intro hc
   have hc:=of_decide_eq_true hc
   obtain⟨s,h1,hB,h2⟩:=(aV (E:=E) hi hg hv).wQ
   obtain⟨p1,p2,p3,p4,p5⟩:=yC hB
   refine⟨.ref (ρ.om.lc p) s (off+(cO lo).toNat),.iq ?_,by unfold Rl;exact⟨s,h1,p4,by omega,rfl⟩⟩
   simp only[aW,hop,ha,h2,Option.bind_some]
   rw[if_pos ⟨hc.1,by omega⟩]
  ·rename_i m e c k l ha hv
   cases h
   intro hc
   have hc:=of_decide_eq_true hc
   obtain⟨c',h2,_⟩:=(aV (E:=E) hi hg hv).jO
   have hr:aC R ρ σ.top (Uo R k m l) ((List.map (V.int k) l).take m):=by
    rw[←afj hc.2];exact V4 l _
   refine⟨.aK ((List.map (V.int k) l).take m) 0,.iq ?_,by unfold Rl;exact⟨_,rfl,hr⟩⟩
   simp only[aW,hop,ha,h2,Option.bind_some]
   rw[if_pos ⟨hc.1,by rw[List.length_map];exact hc.2,by unfold bf;rw[List.all_map];exact List.all_eq_true.2 fun _ _=>rfl⟩]
   rfl
  ·cases h
 ·
  rename_i c hop
  split at h
  ·rename_i p off k n lo hi' y dX hvs
   split at h
   ·rename_i t ht
    split at h
    ·rename_i e he
     obtain⟨hel,h⟩:=cZ h
     obtain⟨z1,z2⟩:=wU hel
     split at h
     ·rename_i l0 ss hsrc hl
      obtain⟨l,hl0⟩:∃l:List Int,l=l0:=⟨l0,rfl⟩
      subst hl0
      split at h
      ·rename_i pre k' n' v post hsp
       by_cases ek:k'=k
       ·subst ek
        rw[if_pos rfl] at h
        cases hb:Nat.beq n' n
        ·rw[hb] at h;cases h
        rw[hb,cond_true] at h
        have:=dG hb;subst this
        cases h
        have hargs:=uo (E:=E) hi hg hvs
        obtain⟨a1,as1,ea1,ra1,ra2⟩:=hargs.dB
        obtain⟨a2,as2,ea2,rb1,rb2⟩:=ra2.dB
        have ea3:=rb2.eT
        subst ea3;subst ea2
        obtain⟨s,h1,hB,rfl⟩:=ra1.wQ
        obtain⟨p1,p2,p3,p4,p5⟩:=yC hB
        obtain⟨s',h3,h4⟩:=hi.ob _ _ hl
        rw[h1] at h3;cases h3
        obtain⟨e1,w1⟩:=tq hsp
        obtain⟨q1,q2⟩:=OQ hR (σ:=σ) (ag:=false) (z:=aD) hsrc rb1
        have q1:jE σ false 1 aD a2=some (List.map (V.int k') l):=q1
        have hlen:(fu n' hi'-cO lo).toNat=(fu n' hi').toNat-(cO lo).toNat:=by omega
        have hmin:min (List.map (V.int k') l).length ((fu n' hi').toNat-(cO lo).toNat)=(List.take (fu n' hi'-cO lo).toNat l).length:=by
         rw[List.length_map,List.length_take,hlen,Nat.min_comm]
        have hfl:((List.map (V.int k') l).take (List.take (fu n' hi'-cO lo).toNat l).length).flatMap V.cells=(List.take (fu n' hi'-cO lo).toNat l).map (V.int k'):=by
         have:∀m:List Int,(m.map (V.int k')).flatMap V.cells=m.map (V.int k'):=by
          intro m
          induction m with
          |nil=>rfl
          |cons x m ih=>rw[List.map_cons,List.flatMap_cons,ih];rfl
         rw[←List.map_take,this,List.length_take]
         congr 1
         by_cases hle:(fu n' hi'-cO lo).toNat≤List.length l
         ·rw[Nat.min_eq_left hle]
         ·rw[Nat.min_eq_right (by omega),List.take_of_length_le (Nat.le_refl _),List.take_of_length_le (by omega)]
        have hlt:(List.take (fu n' hi'-cO lo).toNat l).length≤(fu n' hi').toNat-(cO lo).toNat:=by rw[List.length_take,hlen];exact Nat.min_le_left _ _
        have hone:(List.map (V.int k') l).all (fun v=>bf v.cells)=true:=by rw[List.all_map];simp[bf,V.cells,oneCell]
        refine⟨_,_,ρ,.of (o:=o) fun S=> ?_,(hi.le (Nat.le_succ _)).set p s (x:=.sg (pre++(.a k' n' (v.rM (cO lo) (List.take (fu n' hi'-cO lo).toNat l))::post))) (a:=.cells (bB (pre++(.a k' n' (v.rM (cO lo) (List.take (fu n' hi'-cO lo).toNat l))::post)))) ⟨s,h1,tX _ _ _ _⟩,rfl,by unfold Rl;rfl,fun q _=>aT.set hl rfl⟩
        unfold opC
        rw[hop];dsimp only
        rw[dX];dsimp only
        rw[ea1]
        have hbv:mE E fr.om (o.dst.map fun t=>(fr.d,t)) σ aB .copy c.argTypes [.vw (ρ.om.lc p) s (off+(cO lo).toNat) ((fu n' hi').toNat-(cO lo).toNat) (n'-(cO lo).toNat) 1 false,a2]=(c.argTypes[0]?).bind fun t=>copyV E.P σ t (.vw (ρ.om.lc p) s (off+(cO lo).toNat) ((fu n' hi').toNat-(cO lo).toNat) (n'-(cO lo).toNat) 1 false) a2:=rfl
        rw[hbv,ht];simp only[Option.bind_some]
        rw[afh he z1 z2 q2 q1 hone h4 (by rw[hmin,fQ,e1,wV,w1,Jq];show off+(cO lo).toNat+_≤off+(n'+_);omega),hmin,hfl]
        simp only[Option.map_some]
        rw[e1,VO (w:=v.rM (cO lo) (List.take (fu n' hi'-cO lo).toNat l)) w1 (by omega) (by unfold Vec.rM;rw[EC];simp only[List.length_append,List.length_take,List.length_drop,v.h] at*;omega)]
        try rfl
       ·rw[if_neg ek] at h;cases h
      ·cases h
     ·cases h
    ·cases h
   ·cases h
  ·cases h
 ·cases h
theorem afw {om:Bool} {F:Nat→List (FR R)} (hF:bS E F) (aX:ρ.om.om=om) (eF:∀d,o.dst=some d→d<F0) {g:List (Nat×Bool)} (hg:nM fr g) (hi:aH ρ aB st fr σ) {r:dA R} (h:pJ E R om F g o.dst o.op st=some r):rW E st ρ aB fr σ o r:=by
 unfold pJ at h
 split at h
 ·
  rename_i x hop
  split at h
  ·rename_i v hv;cases h;exact .tt (y:=fr.ev E x) (by simp only[aW,hop]) (aV hi hg hv)
  ·cases h
 ·rename_i x hop
  split at h
  ·rename_i v hv;cases h;exact .tt (y:=fr.ev E x) (by simp only[aW,hop]) (aV hi hg hv)
  ·cases h
 ·
  rename_i c a' b' hop
  split at h
  ·rename_i j
   split at h
   ·rename_i t hc
    have hc':=(aV (E:=E) hi hg hc).pK
    split at h
    ·rename_i x y hx hy
     split at h
     ·rename_i v hv
      cases h
      refine .tt (BG hop hc') ?_
      rw[Ac] at hc'
      cases t
      ·exact VR hv (aV (E:=E) hi (.cons hc' hg) hy)
      ·exact VQ hv (aV (E:=E) hi (.cons hc' hg) hx)
     ·cases h
    ·cases h
   ·rename_i t hc
    have hc':=(aV (E:=E) hi hg hc).sV
    split at h
    ·rename_i v hv
     cases h
     refine .tt (BG hop hc') ?_
     cases t
     ·exact aV (E:=E) hi hg hv
     ·exact aV (E:=E) hi hg hv
    ·cases h
   ·cases h
  ·cases h
 ·
  rename_i t hop
  split at h
  ·rename_i d z hd hz
   obtain⟨hc,h⟩:=cZ h
   cases h
   simp only[Bool.and_eq_true,Bool.not_eq_true'] at hc
   obtain⟨v,hv,hr⟩:=Bv (ρ:=ρ) (top:=σ.top) hz
   have hng:wF z=true:=by
    cases z<;>first|rfl| (have:=hc.1;simp[TV.cells,wE,NI] at this)
   obtain⟨hcells,_⟩:=uq hng hr
   refine⟨.ref (ρ.om.lc d) aB 0,_,ρ.kN d aB,.iq (o:=o) ?_,VZ hR (hi.le (Nat.le_succ _)) hcells hc.2,rfl,by unfold Rl;exact⟨aB,rV,rfl⟩,fun q hq=>aT.new (fun e=>hq (by rw[hd,e]))⟩
   simp only[aW,hop,hd,Option.map_some,Option.bind_some,hv,Ev hc.1 hcells,if_true,hi.at (eF _ hd)]
  ·cases h
 ·
  rename_i t x hop
  cases hz:E.tN t with
  |true=>
   rw[hz,cond_true] at h
   split at h
   ·rename_i v hv
    obtain⟨hc,h⟩:=cZ h
    cases h
    rw[Bool.and_eq_true] at hc
    have hr:=aV (E:=E) hi hg hv
    obtain⟨hcells,hnr⟩:=uq hc.2 hr
    refine .tt (y:=.aK (fr.ev E x).cells 0) ?_ ?_
    ·simp only[aW,hop,hz,if_true,Jo hR _ _ hc.1 hr,hnr,and_self]
    ·unfold Rl;exact⟨_,rfl,hcells⟩
   ·cases h
  |false=>
  rw[hz,cond_false] at h
  split at h
  ·rename_i d v hd hv
   obtain⟨hc,h⟩:=cZ h
   cases h
   simp only[Bool.and_eq_true,Bool.not_eq_true'] at hc
   have hr:=aV (E:=E) hi hg hv
   obtain⟨hcells,hnr⟩:=uq hc.1.2 hr
   refine⟨.ref (ρ.om.lc d) aB 0,_,ρ.kN d aB,.iq (o:=o) ?_,VZ hR (hi.le (Nat.le_succ _)) hcells hc.2,rfl,by unfold Rl;exact⟨aB,rV,rfl⟩,fun q hq=>aT.new (fun e=>hq (by rw[hd,e]))⟩
   simp only[aW,hop,hz,Bool.false_eq_true,if_false,hd,Option.map_some,Option.bind_some,Ev hc.1.1 hcells,hnr,and_self,if_true,hi.at (eF _ hd)]
  ·cases h
 ·
  rename_i t parts hop
  split at h
  ·rename_i pl z ps hpl hz hps
   split at h
   ·rename_i cs hcs
    cases h
    obtain⟨zv,hzv,OM⟩:=Bv (ρ:=ρ) (top:=σ.top) hz
    obtain⟨e1,e2⟩:=Ow (E:=E) hi hg hps
    have hzc:aC R ρ σ.top z.cells zv.cells:=by
     refine(uq ?_ OM).1
     unfold uX at hz
     cases z<;>first|rfl|skip
     all_goals
      exfalso
      split at hz
      ·split at hz
       ·unfold Ao at hz
        split at hz
        ·split at hz<;>cases hz
        ·unfold xU at hz;split at hz<;>cases hz
       ·cases hz
      ·cases hz
    obtain⟨l',f1,f2⟩:=U9 (qs:=parts.toList.map fun p=>(p.1,fr.ev E p.2)) pl (by rw[e1];simp[Function.comp_def]) (by simpa [Function.comp_def] using e2) hzc hcs
    refine .tt (y:=.agg l') ?_ (by unfold Rl;exact⟨l',rfl,f2⟩)
    simp only[aW,hop,hpl,hzv,Option.bind_some]
    rw[f1];rfl
   ·cases h
  ·cases h
 ·
  rename_i t len parts hop
  split at h
  ·rename_i ps hps
   obtain⟨e1,e2⟩:=Ow (E:=E) hi hg hps
   refine .val (aeI hR (qs:=parts.toList.map fun p=>(p.1,fr.ev E p.2)) h (by rw[e1];simp[Function.comp_def]) (by simpa [Function.comp_def] using e2)) fun y hy=> ?_
   simp only[aW,hop]
   rw[hy];rfl
  ·cases h
 ·
  rename_i t a hop
  split at h
  ·rename_i p off hv
   split at h
   ·rename_i cs hl
    split at h
    ·rename_i v hld
     cases h
     obtain⟨s,h1,h2⟩:=(aV (E:=E) hi hg hv).nL
     obtain⟨s',l,h3,h4,h5⟩:=hi.rd hl
     rw[h1] at h3;cases h3
     obtain⟨y,hy,hr⟩:=vD h5 hld
     exact .tt (by simp only[aW,hop,h2,h4,Option.bind_some,hy,Option.map_some]) hr
    ·cases h
   ·cases h
  ·rename_i cs off hv
   split at h
   ·rename_i v hld
    cases h
    obtain⟨l,h2,h5⟩:=(aV (E:=E) hi hg hv).sW
    obtain⟨y,hy,hr⟩:=vD h5 hld
    exact .tt (by simp only[aW,hop,h2,hy,Option.map_some]) hr
   ·cases h
  ·rename_i p τ i off hv
   split at h
   ·rename_i ob hl
    obtain⟨s,h1,_,h2⟩:=(aV (E:=E) hi hg hv).yu
    obtain⟨l,f,rfl,hf⟩:=aeQ h (hi.rd hl) h1
    intro y hy
    obtain⟨cs,w,h3,h4,h5⟩:=hf y hy
    exact⟨w,.iq (by simp only[aW,hop,h2,h3,Option.bind_some,h4,Option.map_some]),h5⟩
   ·cases h
  ·cases h
 ·
  rename_i t a x hop
  split at h
  ·rename_i p off v hv hx
   split at h
   ·rename_i cs sz hl hsz
    obtain⟨hc,h⟩:=cZ h
    cases h
    simp only[Bool.and_eq_true] at hc
    obtain⟨⟨⟨c1,c2⟩,c3⟩,c4⟩:=hc
    obtain⟨s,h1,h2⟩:=(aV (E:=E) hi hg hv).nL
    obtain⟨s',l,h3,h4,h5⟩:=hi.ob _ _ hl
    rw[h1] at h3;cases h3
    obtain⟨h6,h7⟩:=uq c4 (aV (E:=E) hi hg hx)
    refine⟨aD,_,ρ,.iq (o:=o) ?_,(hi.le (Nat.le_succ _)).set p s ⟨s,_,h1,tX _ _ _ _,OG off h5 h6⟩,rfl,by unfold Rl;rfl,fun q _=>aT.set hl rfl⟩
    simp only[aW,hop,h2,h4,Option.bind_some]
    rw[if_pos ⟨by rw[hsz,h6.length,dG c1],by rw[h6.length,h5.length];exact Nat.le_of_ble_eq_true c2,Ev c3 h6⟩]
   ·cases h
  ·cases h
 ·
  rename_i x hop
  split at h
  ·rename_i p off hv;cases h
   have hr:=aV (E:=E) hi hg hv
   obtain⟨s,h1,h2⟩:=hr.nL
   exact .tt (y:=fr.ev E x) (by simp only[aW,hop,h2]) hr
  ·rename_i p off hv;cases h
   have hr:=aV (E:=E) hi hg hv
   obtain⟨s,h2,h1⟩:=hr.sW
   exact .tt (y:=fr.ev E x) (by simp only[aW,hop,h2]) hr
  ·rename_i p τ i off hv;cases h
   have hr:=aV (E:=E) hi hg hv
   obtain⟨s,h1,_,h2⟩:=hr.yu
   exact .tt (y:=fr.ev E x) (by simp only[aW,hop,h2]) hr
  ·rename_i f a' b' hv;cases h
   have hr:=aV (E:=E) hi hg hv
   obtain⟨a',b',h2,h1⟩:=hr.lN
   exact .tt (y:=fr.ev E x) (by simp only[aW,hop,h2]) hr
  ·cases h
 ·
  rename_i op t x y t' hop
  split at h
  ·rename_i x' y' hx hy
   exact .val (aeC h (aV (E:=E) hi hg hx) (aV (E:=E) hi hg hy)) fun z hz=>by simp only[aW,hop,hz,Option.map_some]
  ·cases h
 ·
  rename_i op t x hop
  split at h
  ·rename_i x' hx
   exact .val (aeD h (aV (E:=E) hi hg hx)) fun z hz=>by simp only[aW,hop,hz,Option.map_some]
  ·cases h
 ·
  rename_i a' b' x hop
  split at h
  ·rename_i x' hx
   exact .val (aeE (σ:=σ) h (aV (E:=E) hi hg hx)) fun z hz=>by simp only[aW,hop,hz,Option.map_some]
  ·cases h
 ·
  rename_i f a' b' hop
  split at h
  ·rename_i xs ys hx hy
   cases h
   exact .tt (y:=.fn (.func f) (a'.toList.map (fr.ev E)) (b'.toList.map (fr.ev E))) (by simp only[aW,hop]) (by unfold Rl;exact⟨_,_,rfl,uo (E:=E) hi hg hx,uo (E:=E) hi hg hy⟩)
  ·cases h
 ·
  rename_i t hop
  split at h
  ·rename_i d k e hd ht
   split at h
   ·rename_i k' e' hk he
    cases h
    refine⟨.bD (ρ.om.lc d) aB,_,ρ.kN d aB,.iq (o:=o) ?_,(hi.le (Nat.le_succ _)).new d aB (a:=.map [] []) ⟨aB,rV,map_eq σ (ρ.om.lc d) aB [] []⟩,rfl,by unfold Rl;exact⟨aB,rV,rfl⟩,fun q hq=>aT.new (fun e=>hq (by rw[hd,e]))⟩
    simp only[aW,hop,hd,Option.map_some,hi.at (eF _ hd)]
   ·cases h
    refine⟨.bD (ρ.om.lc d) aB,_,ρ.kN d aB,.iq (o:=o) ?_,(hi.le (Nat.le_succ _)).new d aB (a:=.map [] []) ⟨aB,[],[],rV,map_eq σ (ρ.om.lc d) aB [] [],rfl,rfl⟩,rfl,by unfold Rl;exact⟨aB,rV,rfl⟩,fun q hq=>aT.new (fun e=>hq (by rw[hd,e]))⟩
    simp only[aW,hop,hd,Option.map_some,hi.at (eF _ hd)]
  ·cases h
 ·
  rename_i t l c hop
  split at h
  ·rename_i n m hn hm
   refine aeX hR h (aV (E:=E) hi hg hn) (aV (E:=E) hi hg hm) hi rfl fun y σ' hy=>.iq ?_
   have e:(o.dst.map fun t=>(fr.d,t))=o.dst.map fun t=>(ρ.om.lc t):=hi.VY eF
   simp only[aW,hop]
   rw[e,hi.om,aX];exact hy
  ·cases h
 ·
  rename_i t x lo hi' hop
  split at h
  ·rename_i x' hx
   have kI:=aV (E:=E) hi hg hx
   split at h
   ·exact .val (Je hR (σ:=σ) (vl:=none) (vh:=none) h kI (fun y hy=>by cases hy) (fun _=>rfl) (fun y hy=>by cases hy) (fun _=>rfl)) fun z hz=>by simp only[aW,hop,gJ,hz,Option.map_some]
   ·rename_i lo
    split at h
    ·rename_i l hl
     exact .val (Je hR (σ:=σ) (vl:=some (fr.ev E lo)) (vh:=none) h kI (fun y hy=>by cases hy;exact⟨_,rfl,aV (E:=E) hi hg hl⟩) (fun h=>by cases h) (fun y hy=>by cases hy) (fun _=>rfl)) fun z hz=>by simp only[aW,hop,gJ,hz,Option.map_some]
    ·cases h
   ·rename_i hi2
    split at h
    ·rename_i l hl
     exact .val (Je hR (σ:=σ) (vl:=none) (vh:=some (fr.ev E hi2)) h kI (fun y hy=>by cases hy) (fun _=>rfl) (fun y hy=>by cases hy;exact⟨_,rfl,aV (E:=E) hi hg hl⟩) (fun h=>by cases h)) fun z hz=>by simp only[aW,hop,gJ,hz,Option.map_some]
    ·cases h
   ·rename_i lo hi2
    split at h
    ·rename_i l l2 hl hl2
     exact .val (Je hR (σ:=σ) (vl:=some (fr.ev E lo)) (vh:=some (fr.ev E hi2)) h kI (fun y hy=>by cases hy;exact⟨_,rfl,aV (E:=E) hi hg hl⟩) (fun h=>by cases h) (fun y hy=>by cases hy;exact⟨_,rfl,aV (E:=E) hi hg hl2⟩) (fun h=>by cases h)) fun z hz=>by simp only[aW,hop,gJ,hz,Option.map_some]
    ·cases h
  ·cases h
 ·
  rename_i t x f hop
  split at h
  ·rename_i x' hx
   have kI:=aV (E:=E) hi hg hx
   split at h
   ·rename_i v hv
    cases h
    unfold Uf at hv
    split at hv
    ·rename_i p u hf
     split at hv
     ·rename_i q off
      cases hv
      obtain⟨s,h1,h2⟩:=kI.nL
      exact .tt (y:=.ref (ρ.om.lc q) s (off+p)) (by simp only[aW,hop,hf,Option.bind_some,h2]) (by unfold Rl;exact⟨s,h1,rfl⟩)
     ·rename_i q off
      cases hv
      obtain⟨l,h2,h1⟩:=kI.sW
      exact .tt (y:=.aK l (off+p)) (by simp only[aW,hop,hf,Option.bind_some,h2]) (by unfold Rl;exact⟨l,rfl,h1⟩)
     ·rename_i q τ i off
      cases hv
      obtain⟨s,h1,h3,h2⟩:=kI.yu
      exact .tt (y:=.ref (ρ.om.lc q) s (i.toNat*bI R τ+off+p)) (by simp only[aW,hop,hf,Option.bind_some,h2]) (by unfold Rl;exact⟨s,h1,h3,by rw[Nat.add_assoc]⟩)
     ·cases hv
    ·cases hv
   ·cases h
  ·cases h
 ·
  rename_i t x f hop
  split at h
  ·rename_i p u cs hf hx
   split at h
   ·rename_i v hv
    cases h
    obtain⟨l,h1,h2⟩:=(aV (E:=E) hi hg hx).jN
    obtain⟨y,hy,hr⟩:=vD h2 hv
    exact .tt (by simp only[aW,hop,hf,Option.bind_some,h1,hy,Option.map_some]) hr
   ·cases h
  ·cases h
 ·
  rename_i t x i hop
  split at h
  ·rename_i p τ y' hx hy
   exact .val (aeY hR (om:=false) h (aV (E:=E) hi hg hx) (aV (E:=E) hi hg hy) hi) fun z hz=>by simp only[aW,hop,hz,Option.map_some]
  ·rename_i x' y' _ hx hy
   exact .val (ae8 hR h (aV (E:=E) hi hg hx) (aV (E:=E) hi hg hy)) fun z hz=>by simp only[aW,hop,hz,Option.map_some]
  ·cases h
 ·
  rename_i t x i hop
  split at h
  ·rename_i x' y' hx hy
   exact .val (ae9 h (aV (E:=E) hi hg hx) (aV (E:=E) hi hg hy)) fun z hz=>by simp only[aW,hop,hz,Option.map_some]
  ·cases h
 ·
  rename_i t x i ok hop
  split at h
  ·rename_i x' y' hx hy
   exact .val (afi hR h (aV (E:=E) hi hg hx) (aV (E:=E) hi hg hy) hi) fun z hz=>by simp only[aW,hop,hz,Option.map_some]
  ·cases h
 ·
  rename_i t m k v hop
  split at h
  ·rename_i m' k' v' hm hk hv
   exact VX hR h (aV (E:=E) hi hg hm) (aV (E:=E) hi hg hk) (aV (E:=E) hi hg hv) hi fun σ' hs=>by simp only[aW,hop,hs,Option.map_some]
  ·cases h
 ·rename_i t m k v hop
  split at h
  ·rename_i m' k' v' hm hk hv
   exact VX hR h (aV (E:=E) hi hg hm) (aV (E:=E) hi hg hk) (aV (E:=E) hi hg hv) hi fun σ' hs=>by simp only[aW,hop,hs,Option.map_some]
  ·cases h
 ·
  rename_i x i hop
  split at h
  ·rename_i vs hv
   split at h
   ·rename_i v hx
    cases h
    obtain⟨l,h1,h2⟩:=(aV (E:=E) hi hg hv).I6
    obtain⟨y,hy,hr⟩:=h2.get hx
    exact .tt (by simp only[aW,hop,h1,hy,Option.map_some]) hr
   ·cases h
  ·cases h
 ·
  rename_i c hop
  split at h
  ·rename_i bi dX
   split at h
   ·rename_i vs hvs
    have hrs:=uo (E:=E) hi hg hvs
    have step:∀y σ',mE E fr.om (o.dst.map fun t=>(fr.d,t)) σ aB bi c.argTypes (c.args.toList.map (fr.ev E))=some (y,σ')→kP E fr σ aB o y σ':=fun y σ' hb=>.of fun S=>by
     simp only[opC,hop,dX,hb,Option.map_some]
    unfold blt at h
    split at h
    ·rename_i x
     split at h
     ·rename_i t ht
      split at h
      ·rename_i n hn
       cases h
       obtain⟨v,l,e,h1,h2⟩:=hrs.dB
       rw[h2.eT] at e
       refine⟨_,step _ σ ?_,by unfold Rl;rfl⟩
       rw[e]
       simp only[mE,ht,Option.bind_some,aeL hn h1 hi,Option.map_some]
      ·cases h
     ·cases h
    ·rename_i x y
     split at h
     ·rename_i t u ht hu
      obtain⟨v,l,e,h1,h2⟩:=hrs.dB
      obtain⟨w,l',e',h3,h4⟩:=h2.dB
      subst e'
      rw[h4.eT] at e
      have e0:(o.dst.map fun t=>(fr.d,t))=o.dst.map fun t=>(ρ.om.lc t):=hi.VY eF
      have fin:AQ E u=true→∀z σ',gV E.P om false σ aB (o.dst.map fun t=>(ρ.om.lc t)) t v w=some (z,σ')→kP E fr σ aB o z σ':=fun hss z σ' hz=>step z σ' (by
       rw[e,e0]
       unfold AQ at hss
       simp only[mE,ht,hu,Option.bind_some,hi.om,aX]
       split at hss
       ·rename_i hu';rw[hu'];simp only[hz,Option.bind_some]
       ·rename_i hu';rw[hu'];simp only[hz,Option.bind_some]
       ·cases hss)
      cases EG:om
      ·rw[EG] at h fin
       have h':Ec E R o.dst t u x y st=some r:=h
       have hss:AQ E u=true:=by
        unfold Ec at h'
        split at h'
        ·split at h'
         ·exact(cZ h').1
         ·cases h'
        ·cases h'
       exact aeK hR (loc:=o.dst.map fun t=>(ρ.om.lc t)) h' h1 h3 hi (fin hss)
      ·rw[EG] at h fin
       have h':Ed E R o.dst t u x y st=some r:=h
       have hss:AQ E u=true:=by
        unfold Ed at h'
        split at h'
        ·split at h'
         ·exact(cZ h').1
         ·cases h'
        ·cases h'
       exact aeW hR h' h1 h3 hi rfl (fin hss)
     ·cases h
    ·rename_i x l
     split at h
     ·rename_i v hv
      cases h
      obtain⟨y,ys,e,h1,h2⟩:=hrs.dB
      obtain⟨w,hw,hr⟩:=OT false hv h1 h2
      refine⟨w,step w σ ?_,hr⟩
      rw[e]
      simp only[mE,hw,Option.map_some]
     ·cases h
    ·rename_i x l
     split at h
     ·rename_i v hv
      cases h
      obtain⟨y,ys,e,h1,h2⟩:=hrs.dB
      obtain⟨w,hw,hr⟩:=OT true hv h1 h2
      refine⟨w,step w σ ?_,hr⟩
      rw[e]
      simp only[mE,hw,Option.map_some]
     ·cases h
    ·cases h
   ·cases h
  ·rename_i f dX
   split at h
   ·rename_i f' a' b' vs hf hvs
    cases himp:E.imp f' with
    |true=>rw[himp] at h;cases h
    |false=>
     rw[himp,cond_false] at h
     obtain⟨va,vb,h1,h2,h3⟩:=(aV (E:=E) hi hg hf).lN
     exact VH hR hF hop dX h1 himp ((h2.append (uo (E:=E) hi hg hvs)).append h3) hi (fun _ hx=>hx) h
   ·cases h
  ·cases h
 ·cases h
theorem uy {om:Bool} {F:Nat→List (FR R)} (hF:bS E F) (aX:ρ.om.om=om) (eF:∀d,o.dst=some d→d<F0) {g:List (Nat×Bool)} (hg:nM fr g) (hi:aH ρ aB st fr σ) {r:dA R} (h:uh E R om F g o.dst o.op st=some r):rW E st ρ aB fr σ o r:=by
 unfold uh at h
 split at h
 ·rename_i r' hx;cases h;exact afk hR eF hg hi hx
 ·exact afw hR hF aX eF hg hi h
end
end Aq
end
section
namespace Aq
open Go
set_option linter.unusedSectionVars false
set_option linter.unusedVariables false
section
variable {R:gM} {E:Env} {ρ ρ':aL} {b aB:Nat} {st:MS R.T} {fr:Fr} {σ:ah} {o:Oper} (hR:mQ R)
include hR
def afy (E:Env) (g:Nat) (r:FM R):Prop:=∀p q y q',r.F p q=some (y,q')→∀(ρ:aL) (vs:List V) (σ:ah),ρ.om.om=E.om g→(∀t,ρ.tk t=none)→ρ.om.lo≤σ.next→
 aC R ρ σ.top (iC R .any r.args p) vs→(∀o x,look (kC R r.obs q) o=some x→dO ρ σ o x)→
 kr E g vs ρ.om.dp σ fun v σ'=>v=mO (aY R r.res y)∧(∀o x,look (kC R r.obs q') o=some x→dO ρ σ' o x)∧σ.next≤σ'.next∧(∀l,l<σ.next→σ'.loops l=σ.loops l)∧(∀s,s<ρ.om.lo→σ'.top s=σ.top s)∧
  ∀L:Loc,L.1≤ρ.om.dp→ρ.om.out L→σ'.obj L=σ.obj L
def Jw (E:Env) (M:Nat→List (FM R)):Prop:=∀g,∀r∈M g,E.imp g=true∧afy E g r
omit hR in
theorem V6 {i:Nat}:∀{l:List Nat},aP i l=true→i∈l
 | [],h=>by cases h
 |j::l,h=>by
  have h':(Nat.beq i j||aP i l)=true:=h
  rw[Bool.or_eq_true] at h'
  rcases h' with h'|h'
  ·rw[dG h'];exact List.mem_cons_self ..
  ·exact List.mem_cons_of_mem _ (V6 h')
omit hR in
theorem Pg {i:Nat}:∀{l:List Nat},i∈l→aP i l=true
 | [],h=>by cases h
 |j::l,h=>by
  show (Nat.beq i j||aP i l)=true
  rw[Bool.or_eq_true]
  rcases List.mem_cons.1 h with h|h
  ·left;rw[h];exact Nat.beq_refl _
  ·right;exact Pg h
omit hR in
theorem V7:∀{l:List Nat} {n o p:Nat},look (jM l n) o=some p→n≤p∧l[p-n]? =some o
 | [],_,_,_,h=>by cases h
 |a::l,n,o,p,h=>by
  have h':look ((a,n)::jM l (n+1)) o=some p:=h
  by_cases e:o=a
  ·subst e;rw[iY] at h';cases h';exact⟨Nat.le_refl _,by simp⟩
  ·rw[fP _ _ e] at h'
   obtain⟨h1,h2⟩:=V7 h'
   refine⟨by omega, ?_⟩
   have:p-n=(p-(n+1))+1:=by omega
   rw[this];simpa using h2
omit hR in
theorem V8:∀{l:List Nat},yg l=true→∀{i j o:Nat},l[i]? =some o→l[j]? =some o→i=j
 | [],_,i,j,o,hi,_=>by simp at hi
 |a::l,h,i,j,o,hi,hj=>by
  have h':(!(aP a l)&& yg l)=true:=h
  rw[Bool.and_eq_true,Bool.not_eq_true'] at h'
  cases i with
  |zero=>
   cases j with
   |zero=>rfl
   |succ j=>
    have e:a=o:=by simpa using hi
    have e2:l[j]? =some o:=by simpa using hj
    rw[e,Pg (List.mem_of_getElem? e2)] at h'
    exact absurd h'.1 (by simp)
  |succ i=>
   cases j with
   |zero=>
    have e:a=o:=by simpa using hj
    have e2:l[i]? =some o:=by simpa using hi
    rw[e,Pg (List.mem_of_getElem? e2)] at h'
    exact absurd h'.1 (by simp)
   |succ j=>rw[V8 h'.2 (show l[i]? =some o by simpa using hi) (show l[j]? =some o by simpa using hj)]
omit hR in
theorem Ph:∀{l:List Nat} {n p:Nat} {x:Ob R.T},look (Ba st (jM l n)) p=some x→∃o,n≤p∧l[p-n]? =some o∧look st.ob o=some x
 | [],_,_,_,h=>by cases h
 |a::l,n,p,x,h=>by
  have up:look (Ba st (jM l (n+1))) p=some x→∃o,n≤p∧(a::l)[p-n]? =some o∧look st.ob o=some x:=fun h=>by
   obtain⟨o,h1,h2,h3⟩:=Ph h
   refine⟨o,by omega, ?_,h3⟩
   have:p-n=(p-(n+1))+1:=by omega
   rw[this];simpa using h2
  have h':=h
  unfold jM Ba at h'
  split at h'
  ·rename_i y hy
   by_cases e:p=n
   ·subst e;rw[iY] at h';cases h';exact⟨a,Nat.le_refl _,by simp,hy⟩
   ·rw[fP _ _ e] at h';exact up h'
  ·exact up h'
omit hR in
theorem Pj {L:List (Nat×Ob R.T)}:∀{l:List Nat} {n o:Nat} {y:Ob R.T},look (rQ (jM l n) L) o=some y→∃p,n≤p∧l[p-n]? =some o∧look L p=some y
 | [],_,_,_,h=>by cases h
 |a::l,n,o,y,h=>by
  have up:look (rQ (jM l (n+1)) L) o=some y→∃p,n≤p∧(a::l)[p-n]? =some o∧look L p=some y:=fun h=>by
   obtain⟨p,h1,h2,h3⟩:=Pj h
   refine⟨p,by omega, ?_,h3⟩
   have:p-n=(p-(n+1))+1:=by omega
   rw[this];simpa using h2
  have h':=h
  unfold jM rQ at h'
  split at h'
  ·rename_i z hz
   by_cases e:o=a
   ·subst e;rw[iY] at h';cases h';exact⟨n,Nat.le_refl _,by simp,hz⟩
   ·rw[fP _ _ e] at h';exact up h'
  ·exact up h'
omit hR in
theorem V9 {L:List (Nat×Ob R.T)}:∀{l:List Nat} {n o:Nat},(∀p,n≤p→p<n+l.length→∃y,look L p=some y)→look (rQ (jM l n) L) o=none→o∉l
 | [],_,_,_,_=>by simp
 |a::l,n,o,hL,h=>by
  obtain⟨y,hy⟩:=hL n (Nat.le_refl _) (by simp)
  have h':=h
  unfold jM rQ at h'
  rw[hy] at h'
  by_cases e:o=a
  ·subst e;rw[iY] at h';cases h'
  ·rw[fP _ _ e] at h'
   have:=V9 (fun p h1 h2=>hL p (by omega) (by rw[List.length_cons];omega)) h'
   simp[e,this]
omit hR in
theorem Jy:∀{l:List Nat} {n:Nat} {obs:List (Nat×jY)} {q:nC R.T obs},Bb (jM l n) obs=true→∀p,n≤p→p<n+l.length→∃y,look (kC R obs q) p=some y
 | [],n,_,_,_,p,h1,h2=>by simp at h2;omega
 |a::l,n,[],_,h,_,_,_=>by cases h
 |a::l,n,[(j,k)],q,h,p,h1,h2=>by
  have h':(Nat.beq n j&& Bb (jM l (n+1)) [])=true:=h
  rw[Bool.and_eq_true] at h'
  have hj:=dG h'.1
  subst hj
  by_cases e:p=n
  ·subst e;exact⟨_,iY _ _ _⟩
  ·obtain⟨y,hy⟩:=Jy (q:=show nC R.T [] from ()) h'.2 p (by omega) (by rw[List.length_cons] at h2;omega)
   cases hy
 |a::l,n,(j,k)::x::obs,q,h,p,h1,h2=>by
  have h':(Nat.beq n j&& Bb (jM l (n+1)) (x::obs))=true:=h
  rw[Bool.and_eq_true] at h'
  have hj:=dG h'.1
  subst hj
  show∃y,look ((n,ku R k q.1)::kC R (x::obs) q.2) p=some y
  by_cases e:p=n
  ·subst e;exact⟨_,iY _ _ _⟩
  ·rw[fP _ _ e]
   exact Jy h'.2 p (by omega) (by rw[List.length_cons] at h2;omega)
omit hR in
theorem Pk {L:List (Nat×Ob R.T)}:∀(l:List (Nat×jY)) (x:nC R.T l),lJ R L l=some x→∀i v,look (kC R l x) i=some v→∃k y z,look L i=some y∧wH R k y=some z∧v=ku R k z∧(um l=true→okO k=true)
 | [],x,hx,i,v,hv=>by cases hv
 | [(j,k)],x,hx,i,v,hv=>by
   unfold lJ at hx
   split at hx
   ·rename_i y hy
    by_cases e:i=j
    ·subst e
     have hv':look [(i,ku R k x)] i=some v:=hv
     rw[iY] at hv';cases hv'
     exact⟨k,y,x,hy,hx,rfl,fun h=>by unfold um at h;rw[Bool.and_eq_true] at h;exact h.1⟩
    ·have hv':look [(j,ku R k x)] i=some v:=hv
     rw[fP _ _ e] at hv';cases hv'
   ·cases hx
 | (j,k)::q::l,x,hx,i,v,hv=>by
   unfold lJ at hx
   split at hx
   ·rename_i y hy
    cases hu:wH R k y with
    |none=>simp only[hu] at hx;cases hx
    |some z=>
     cases hs:lJ R L (q::l) with
     |none=>simp only[hu,hs] at hx;cases hx
     |some p=>
      simp only[hu,hs] at hx
      obtain rfl:=Option.some.inj hx
      have hv':look ((j,ku R k z)::kC R (q::l) p) i=some v:=hv
      by_cases e:i=j
      ·subst e
       rw[iY] at hv';cases hv'
       exact⟨k,y,z,hy,hu,rfl,fun h=>by unfold um at h;rw[Bool.and_eq_true] at h;exact h.1⟩
      ·rw[fP _ _ e] at hv'
       obtain⟨k',y',z',h1,h2,h3,h4⟩:=Pk (q::l) p hs i v hv'
       exact⟨k',y',z',h1,h2,h3,fun h=>h4 (by unfold um at h;rw[Bool.and_eq_true] at h;exact h.2)⟩
   ·cases hx
omit hR in
theorem Wd:∀{l:List (Nat×jY)} {x:nC R.T l},um l=true→∀{i:Nat} {v:Ob R.T},look (kC R l x) i=some v→∃k z,okO k=true∧v=ku R k z
 | [],x,_,i,v,hv=>by cases hv
 | [(j,k)],x,h,i,v,hv=>by
   unfold um at h;rw[Bool.and_eq_true] at h
   have hv':look [(j,ku R k x)] i=some v:=hv
   by_cases e:i=j
   ·subst e;rw[iY] at hv';cases hv';exact⟨k,x,h.1,rfl⟩
   ·rw[fP _ _ e] at hv';cases hv'
 | (j,k)::q::l,x,h,i,v,hv=>by
   unfold um at h;rw[Bool.and_eq_true] at h
   have hv':look ((j,ku R k x.1)::kC R (q::l) x.2) i=some v:=hv
   by_cases e:i=j
   ·subst e;rw[iY] at hv';cases hv';exact⟨k,x.1,h.1,rfl⟩
   ·rw[fP _ _ e] at hv';exact Wd h.2 hv'
omit hR in
theorem Wh {top top':Nat→Nat} {t:Ty} {x:Den R.T t} {v:V} (h:Rl R ρ top (eZ R .any t x) v):Rl R ρ' top' (eZ R .any t x) v:=by
 cases t with
 |st n=>obtain⟨l,hv,hl⟩:=Rl.jN (R:=R) h;exact⟨l,hv,wR _ _ _ hl⟩
 |int k=>exact h
 |bool=>exact h
 |str=>exact h
 |slice t=>exact h
omit hR in
theorem Wi {top top':Nat→Nat}:∀{l:List Sk} {z:aJ R.T l} {cs:List V},Og l=true→aC R ρ top (iC R .any l z) cs→aC R ρ' top' (iC R .any l z) cs
 | [],_,_,_,h=>h
 | [k],z,cs,hd,h=>by
   cases k<;>first| (cases hd;done)|skip
   rename_i t
   obtain⟨v,ws,rfl,h1,h2⟩:=aC.dB (ts:=[]) (show aC R ρ top [eZ R .any t z] cs from h)
   rw[h2.eT]
   exact .cons' (Wh h1) rfl
 |k::q::l,z,cs,hd,h=>by
  cases k<;>first| (cases hd;done)|skip
  rename_i t
  obtain⟨v,ws,rfl,h1,h2⟩:=aC.dB (show aC R ρ top (eZ R .any t z.1::iC R .any (q::l) z.2) cs from h)
  exact .cons' (Wh h1) (Wi (l:=q::l) hd h2)
omit hR in
theorem Wj {o p:Nat} {k:jY} {z:wz R.T k} (hk:okO k=true) (hb:ρ'.ob p=ρ.ob o) (hn:ρ'.ln p=ρ.ln o) (hl:ρ'.om.lc p=ρ.om.lc o) (h:dO ρ σ o (ku R k z)):dO ρ' σ p (ku R k z):=by
 cases k with
 |cells l=>obtain⟨s,cs,h1,h2,h3⟩:=h;exact⟨s,cs,by rw[hb];exact h1,by rw[hl];exact h2,Wi hk h3⟩
 |st n=>obtain⟨s,cs,h1,h2,h3⟩:=h;exact⟨s,cs,by rw[hb];exact h1,by rw[hl];exact h2,wR _ _ _ h3⟩
 |map k e=>obtain⟨s,h1,h2⟩:=h;exact⟨s,by rw[hb];exact h1,by rw[hl];exact h2⟩
 |arr t=>
  refine⟨h.1.trans hn.symm, ?_⟩
  rcases h.2 with h| ⟨s,cs,h1,h2,h3⟩
  ·exact .inl ⟨h.1,by rw[hb];exact h.2⟩
  ·exact .inr ⟨s,cs,by rw[hb];exact h1,by rw[hl];exact h2,vk _ cs h3⟩
 |sg l=>obtain⟨s,h1,h2⟩:=h;exact⟨s,by rw[hb];exact h1,by rw[hl];exact h2⟩
omit hR in
mutual
theorem Rl.ren {top:Nat→Nat} {m:List (Nat×Nat)} (hm:∀o p,look m o=some p→ρ'.om.lc p=ρ.om.lc o∧ρ'.ob p=ρ.ob o∧ρ'.ln p=ρ.ln o):∀(x:TV R.T) (v:V),Rl R ρ top x v→Rl R ρ' top (u6 m x) v
 |.ref o off,v,h=>by
  obtain⟨s,h1,h2⟩:=h
  unfold u6
  split
  ·rename_i p hp;obtain⟨a,b,c⟩:=hm _ _ hp;exact⟨s,by rw[b];exact h1,by rw[a];exact h2⟩
  ·unfold Rl;trivial
 |.bD o,v,h=>by
  obtain⟨s,h1,h2⟩:=h
  unfold u6
  split
  ·rename_i p hp;obtain⟨a,b,c⟩:=hm _ _ hp;exact⟨s,by rw[b];exact h1,by rw[a];exact h2⟩
  ·unfold Rl;trivial
 |.vw o t,v,h=>by
  unfold u6
  split
  ·rename_i p hp
   obtain⟨a,b,c⟩:=hm _ _ hp
   rcases h with ⟨s,h1,h2⟩| ⟨h1,h2⟩
   ·exact .inl ⟨s,by rw[b];exact h1,by rw[a,c];exact h2⟩
   ·exact .inr ⟨by rw[c];exact h1,h2⟩
  ·unfold Rl;trivial
 |.jB o t i off,v,h=>by
  obtain⟨s,h1,h2⟩:=h
  unfold u6
  split
  ·rename_i p hp;obtain⟨a,b,c⟩:=hm _ _ hp;exact⟨s,by rw[b];exact h1,by rw[a];exact h2⟩
  ·unfold Rl;trivial
 |.sv o _ _ _ _ _,v,h=>by
  obtain⟨s,h1,h2⟩:=h
  unfold u6
  split
  ·rename_i p hp;obtain⟨a,b,c⟩:=hm _ _ hp;exact⟨s,by rw[b];exact h1,by rw[a];exact h2⟩
  ·unfold Rl;trivial
 |.sel o _ _ _ _ _,v,h=>by
  obtain⟨s,h1,h2⟩:=h
  unfold u6
  split
  ·rename_i p hp;obtain⟨a,b,c⟩:=hm _ _ hp;exact⟨s,by rw[b];exact h1,by rw[a];exact h2⟩
  ·unfold Rl;trivial
 |.aj c t l,v,h=>by
  obtain⟨c',hv,hc⟩:=h
  unfold u6
  cases c with
  |own u=>exact⟨c',hv,trivial⟩
  |any=>exact⟨c',hv,trivial⟩
  |sh=>exact⟨c',hv,hc⟩
  |nil=>exact⟨c',hv,hc⟩
  |full=>exact⟨c',hv,hc⟩
 |.agg cs,v,h=>by obtain⟨l,hv,hl⟩:=h;exact⟨l,hv,aC.ren hm cs l hl⟩
 |.bg cs,v,h=>by obtain⟨l,hv,hl⟩:=h;exact⟨l,hv,aC.ren hm cs l hl⟩
 |.aK cs off,v,h=>by obtain⟨l,hv,hl⟩:=h;exact⟨l,hv,aC.ren hm cs l hl⟩
 |.fn f a b,v,h=>by obtain⟨a',b',hv,ha,hb⟩:=h;exact⟨a',b',hv,aC.ren hm a a' ha,aC.ren hm b b' hb⟩
 |.opt _ _ _,_,h=>h.elim
 |.int _ _,_,h=>h
 |.bool _,_,h=>h
 |.gy _,_,h=>h
 |.str _,_,h=>h
 |.eH,_,h=>h
 |.eB,_,h=>h
 |.dU,_,h=>h
 |.fM,_,h=>h
 |.dN,_,h=>h
 |.bV _ _ _,_,h=>h
 |.undef,_,h=>h
 |.sg _,_,h=>h
 |.pz _ _ _ _,_,h=>h
 |.gone,_,h=>h
theorem aC.ren {top:Nat→Nat} {m:List (Nat×Nat)} (hm:∀o p,look m o=some p→ρ'.om.lc p=ρ.om.lc o∧ρ'.ob p=ρ.ob o∧ρ'.ln p=ρ.ln o):∀(x:List (TV R.T)) (v:List V),aC R ρ top x v→aC R ρ' top (wN m x) v
 | [],_,h=>h
 |x::xs,_,⟨v,vs,e,h1,h2⟩=>⟨v,vs,e,Rl.ren hm x v h1,aC.ren hm xs vs h2⟩
end
omit hR in
mutual
theorem Rl.top {ρ:aL} {t t':Nat→Nat} (ht:∀u s,ρ.tk u=some s→t' s=t s):∀(x:TV R.T) (v:V),Rl R ρ t x v→Rl R ρ t' x v
 |.aj c ty l,v,h=>by
  obtain⟨c',hv,hc⟩:=h
  refine⟨c',hv, ?_⟩
  cases c<;>first|exact hc|skip
  rcases hc with hc|hc| ⟨s,h1,h2,h3⟩
  ·exact .inl hc
  ·exact .inr (.inl hc)
  ·exact .inr (.inr ⟨s,h1,h2,(ht _ _ h2).trans h3⟩)
 |.agg cs,v,h=>by obtain⟨l,hv,hl⟩:=h;exact⟨l,hv,aC.top ht cs l hl⟩
 |.bg cs,v,h=>by obtain⟨l,hv,hl⟩:=h;exact⟨l,hv,aC.top ht cs l hl⟩
 |.aK cs off,v,h=>by obtain⟨l,hv,hl⟩:=h;exact⟨l,hv,aC.top ht cs l hl⟩
 |.fn f a b,v,h=>by obtain⟨a',b',hv,ha,hb⟩:=h;exact⟨a',b',hv,aC.top ht a a' ha,aC.top ht b b' hb⟩
 |.ref _ _,_,h=>h
 |.bD _,_,h=>h
 |.vw _ _,_,h=>h
 |.jB _ _ _ _,_,h=>h
 |.opt _ _ _,_,h=>h.elim
 |.int _ _,_,h=>h
 |.bool _,_,h=>h
 |.gy _,_,h=>h
 |.str _,_,h=>h
 |.eH,_,h=>h
 |.eB,_,h=>h
 |.dU,_,h=>h
 |.fM,_,h=>h
 |.dN,_,h=>h
 |.bV _ _ _,_,h=>h
 |.undef,_,h=>h
 |.sg _,_,h=>h
 |.sv _ _ _ _ _ _,_,h=>h
 |.sel _ _ _ _ _ _,_,h=>h
 |.pz _ _ _ _,_,h=>h
 |.gone,_,h=>h
theorem aC.top {ρ:aL} {t t':Nat→Nat} (ht:∀u s,ρ.tk u=some s→t' s=t s):∀(x:List (TV R.T)) (v:List V),aC R ρ t x v→aC R ρ t' x v
 | [],_,h=>h
 |x::xs,_,⟨v,vs,e,h1,h2⟩=>⟨v,vs,e,Rl.top ht x v h1,aC.top ht xs vs h2⟩
end
omit hR in
theorem gQ.top {fr:Fr} {ρ:aL} {t t':Nat→Nat} (ht:∀u s,ρ.tk u=some s→t' s=t s) {x:TV R.T} {v:V} (h:gQ fr ρ t x v):gQ fr ρ t' x v:=by
 cases x with
 |opt j w y=>exact⟨fun hc=>Rl.top ht y v (h.1 hc),h.2⟩
 |_=>exact .of (Rl.top ht _ v h)
omit hR in
theorem Pm {ρ:aL} {σ σ':ah} {p:Nat} (hp:σ'.obj (ρ.om.lc p)=σ.obj (ρ.om.lc p)) (ht:∀u s,ρ.tk u=some s→σ'.top s=σ.top s):∀{x:Ob R.T},dO ρ σ p x→dO ρ σ' p x
 |.cells cs,h=>by
  obtain⟨s,l,h1,h2,h3⟩:=h
  exact⟨s,l,h1,by unfold ah.bK at h2⊢;rw[hp];exact h2,aC.top ht _ _ h3⟩
 |.map k e m,h=>by
  obtain⟨s,h1,h2⟩:=h
  exact⟨s,h1,by unfold ah.eX at h2⊢;rw[hp];exact h2⟩
 |.smap ks vs,h=>by
  obtain⟨s,k,l,h1,h2,h3,h4⟩:=h
  exact⟨s,k,l,h1,by unfold ah.eX at h2⊢;rw[hp];exact h2,aC.top ht _ _ h3,aC.top ht _ _ h4⟩
 |.arr t l,h=>by
  refine⟨h.1, ?_⟩
  rcases h.2 with h| ⟨s,cs,h1,h2,h3⟩
  ·exact .inl h
  ·exact .inr ⟨s,cs,h1,by unfold ah.bK at h2⊢;rw[hp];exact h2,vk l cs h3⟩
 |.sg ss,h=>by
  obtain⟨s,h1,h2⟩:=h
  exact⟨s,h1,by unfold ah.bK at h2⊢;rw[hp];exact h2⟩
 |.gone,_=>trivial
 |.ro b,h=>Pm hp ht (x:=b) h
omit hR in
theorem aH.shift {ρ:aL} {b:Nat} {st:MS R.T} {fr:Fr} {σ σ':ah} (h:aH ρ b st fr σ) (hp:∀p,σ'.obj (ρ.om.lc p)=σ.obj (ρ.om.lc p)) (ht:∀s,s<b→σ'.top s=σ.top s):aH ρ b st fr σ':={h with
 fr:=fun i v hv=>(h.fr i v hv).top fun u s hu=>ht s (h.lt u s hu)
 ob:=fun o x hx=>Pm (hp o) (fun u s hu=>ht s (h.lt u s hu)) (h.ob o x hx)}
omit hR in
theorem Wm {top:Nat→Nat}:∀{l:List Sk} {y:aJ R.T l},Bc l=true→aC R ρ top (iC R .any l y) (aY R l y)
 | [],_,_=>rfl
 | [k],y,h=>by
   cases k<;>first| (cases h;done)|skip
   rename_i t
   cases t<;>first| (cases h;done)|skip
   all_goals exact .cons' rfl rfl
 |k::q::l,y,h=>by
  cases k<;>first| (cases h;done)|skip
  rename_i t
  cases t<;>first| (cases h;done)|skip
  all_goals exact .cons' rfl (Wm (l:=q::l) (y:=y.2) h)
omit hR in
theorem afz {top:Nat→Nat} {xs:List (TV R.T)} {vs:List V} (h:aC R ρ top xs vs):Rl R ρ top (Uq xs) (mO vs):=by
 match xs,vs,h with
 | [],_,h=>rw[h.eT];exact⟨[],rfl,rfl⟩
 | [x],_,h=>obtain⟨v,l,rfl,h1,h2⟩:=h.dB;rw[h2.eT];exact h1
 |x::y::l,_,h=>
  obtain⟨v,ws,rfl,h1,h2⟩:=h.dB
  obtain⟨w,us,rfl,h3,h4⟩:=h2.dB
  exact⟨v::w::us,rfl,.cons' h1 (.cons' h3 h4)⟩
omit hR in
theorem Wn {m:List (Nat×Nat)} {A:List (TV R.T)} {B:List (Nat×Ob R.T)}:∀{l:List (FM R)} {r:FM R} {x:Option (aJ R.T r.res×nC R.T r.obs)},IZ R m A B l=some ⟨r,x⟩→r∈l∧∃p q,fF R r.args A=some p∧lJ R B r.obs=some q∧Bb m r.obs=true∧Bc r.res=true∧um r.obs=true∧x=r.F p q
 | [],_,_,h=>by cases h
 |s::l,r,x,h=>by
  unfold IZ at h
  split at h
  ·rename_i p q hp hq
   obtain⟨hb,h⟩:=cZ h
   rw[Bool.and_eq_true,Bool.and_eq_true] at hb
   cases h
   exact⟨List.mem_cons_self ..,p,q,hp,hq,hb.1,hb.2.1,hb.2.2,rfl⟩
  ·obtain⟨h1,h2⟩:=Wn h
   exact⟨List.mem_cons_of_mem _ h1,h2⟩
def Cx.call (c:Cx) (om:Bool) (lo:Nat) (ids:List Nat) (hnd:yg ids=true):Cx where
 om:=om
 dp:=c.dp+1
 lo:=lo
 fl:=fun p=>if F0≤p then (ids[p-F0]?).map c.lc else none
 lt:=fun p L h=>by
  split at h
  ·rename_i hp
   obtain⟨o,_,rfl⟩:=Option.map_eq_some_iff.1 h
   exact⟨hp,Nat.lt_succ_of_le (c.Bg o)⟩
  ·cases h
 inj:=fun p q L h g=>by
  split at h
  ·split at g
   ·rename_i hp hq
    obtain⟨o,h1,rfl⟩:=Option.map_eq_some_iff.1 h
    obtain⟨o',h2,e⟩:=Option.map_eq_some_iff.1 g
    have:=c.Oh e
    subst this
    have:=V8 hnd h1 h2
    omega
   ·cases g
  ·cases h
omit hR in
theorem Cx.afA {c:Cx} {om:Bool} {lo:Nat} {ids:List Nat} {hnd:yg ids=true} {p o:Nat} (hp:F0≤p) (h:ids[p-F0]? =some o):(c.call om lo ids hnd).lc p=c.lc o:=by
 unfold Cx.lc Cx.call
 dsimp only
 rw[if_pos hp,h]
 rfl
omit hR in
theorem Cx.Wo {c:Cx} {om:Bool} {lo:Nat} {ids:List Nat} {hnd:yg ids=true} {L:Loc} (hL:L.1≤c.dp) (h:∀o∈ids,L≠c.lc o):(c.call om lo ids hnd).out L:=by
 intro p e
 unfold Cx.lc Cx.call at e
 dsimp only at e
 split at e
 ·rename_i M hM
  split at hM
  ·obtain⟨o,h1,rfl⟩:=Option.map_eq_some_iff.1 hM
   exact h o (List.mem_of_getElem? h1) e
  ·cases hM
 ·rw[e] at hL;dsimp only at hL;omega
theorem Pn {β:Type} {M:Nat→List (FM R)} (hM:Jw E M) (hi:aH ρ aB st fr σ) (hsn:aB≤σ.next) {k:MS R.T→Option β} {x:β} (h:yh R M o st k=some x):
 ∃c f g a vb,o.op= .call c∧c.callee= .value f∧fr.ev E f= .fn (.func g) a vb∧E.imp g=true∧kr E g (a++c.args.toList.map (fr.ev E)++vb) (fr.d+1) σ fun v σ1=> ∃st1,aH ρ (aB+1) st1 (fr.put o.dst v) σ1∧σ.next≤σ1.next∧(∀p,aT false p st ρ σ st1 ρ σ1)∧k st1=some x:=by
 unfold yh at h
 split at h
 ·rename_i c hop
  split at h
  ·rename_i f dX
   split at h
   ·rename_i g a' b' vs hf hvs
    obtain⟨hnd,h⟩:=cZ h
    generalize ali:rP (a'++vs++b') []=ids at*
    split at h
    ·rename_i r x' hfm
     obtain⟨⟨y,q'⟩,hy,hk⟩:=Option.bind_eq_some_iff.1 h
     obtain⟨hr,p,q,hp,hq,hks,hsc,hok,rfl⟩:=Wn hfm
     obtain⟨va,vb,HY,hva,hvb⟩:=(aV (E:=E) hi .nil hf).lN
     have hA:=(hva.append (uo (E:=E) hi .nil hvs)).append hvb
     let ρc:aL:=⟨fun p=>if F0≤p then (ids[p-F0]?).bind ρ.ob else none,fun _=>none,fun p=>if F0≤p then (match ids[p-F0]? with|some o=>ρ.ln o|none=>0) else 0,ρ.om.call (E.om g) σ.next ids hnd⟩
     have hρ:∀{p o},F0≤p→ids[p-F0]? =some o→ρc.om.lc p=ρ.om.lc o∧ρc.ob p=ρ.ob o∧ρc.ln p=ρ.ln o:=fun {p o} h1 h2=>by
      refine⟨Cx.afA (hnd:=hnd) h1 h2, ?_, ?_⟩
      ·show (if F0≤p then (ids[p-F0]?).bind ρ.ob else none)=_
       rw[if_pos h1,h2];rfl
      ·show (if F0≤p then (match ids[p-F0]? with|some o=>ρ.ln o|none=>0) else 0)=_
       rw[if_pos h1,h2]
     have hm:∀o p,look (jM ids F0) o=some p→ρc.om.lc p=ρ.om.lc o∧ρc.ob p=ρ.ob o∧ρc.ln p=ρ.ln o:=fun o p hp=>by
      obtain⟨h1,h2⟩:=V7 hp
      exact hρ h1 h2
     obtain⟨himp,hF⟩:=hM g r hr
     obtain⟨n,v,σ',hcall,hv,afB,hnx,hlp,htp,hout⟩:=hF p q y q' hy ρc (va++c.args.toList.map (fr.ev E)++vb) σ rfl (fun _=>rfl) (Nat.le_refl _) (yB hR r.args p _ _ hp (aC.ren hm _ _ hA)) (fun i w hw=>by
      obtain⟨kk,yy,z,h1,h2,rfl,h4⟩:=Pk r.obs q hq i w hw
      obtain⟨o',h5,h6,h7⟩:=Ph h1
      obtain⟨e1,e2,e3⟩:=hρ h5 h6
      exact Wj (h4 hok) e2 e3 e1 (OA hR h2 (hi.ob _ _ h7)))
     have hst:∀s,s<aB→σ'.top s=σ.top s:=fun s hs=>htp s (Nat.lt_of_lt_of_le hs hsn)
     have hno:∀o',o'∉ids→σ'.obj (ρ.om.lc o')=σ.obj (ρ.om.lc o'):=fun o' ho'=>
      hout _ (Nat.le_succ_of_le (ρ.om.Bg o')) (Cx.Wo (hnd:=hnd) (ρ.om.Bg o') fun o'' h2 e=>ho' (by rw[ρ.om.Oh e];exact h2))
     have OE:aH ρ (aB+1) (⟨st.fr,rQ (jM ids F0) (kC R r.obs q')++st.ob⟩:MS R.T) fr σ':={
      d:=hi.d
      om:=hi.om
      fr:=fun i w hw=>(hi.fr i w hw).top fun u s hu=>hst s (hi.lt u s hu)
      ob:=fun o' w hw=>by
       have hw':look (rQ (jM ids F0) (kC R r.obs q')++st.ob) o'=some w:=hw
       rw[vo] at hw'
       split at hw'
       ·rename_i z hz
        cases hw'
        obtain⟨p',h1,h2,h3⟩:=Pj hz
        obtain⟨kk,zz,h4,rfl⟩:=Wd hok h3
        obtain⟨e1,e2,e3⟩:=hρ h1 h2
        exact Wj h4 e2.symm e3.symm e1.symm (afB _ _ h3)
       ·rename_i hz
        have hn:=V9 (fun p' h1 h2=>Jy hks p' h1 h2) hz
        exact Pm (hno o' hn) (fun u s hu=>hst s (hi.lt u s hu)) (hi.ob _ _ hw')
      inj:=hi.inj
      lt:=fun t s ht=>Nat.lt_succ_of_lt (hi.lt t s ht)
      ge:=hi.ge
      nx:=Nat.le_succ_of_le hi.nx}
     refine⟨c,f,g,va,vb,hop,dX,HY,himp,n,v,σ', ?_,_, ?_,hnx, ?_,hk⟩
     ·rw[hi.d];exact hcall
     ·rw[hv]
      exact OE.dY o.dst (afz (Wm hsc))
     ·intro p'
      refine aT.congr (st':=(⟨st.fr,rQ (jM ids F0) (kC R r.obs q')++st.ob⟩:MS R.T)) ⟨rfl,rfl,rfl,hnx,⟨hlp,fun s hs=>hst s (Nat.lt_of_lt_of_le hs hi.nx)⟩,fun L hL ho=> ?_,fun hro=> ?_⟩ kY
      ·have hL':L.1≤ρ.om.dp:=by rcases hL with e|e;cases e;exact e
       exact hout L (Nat.le_succ_of_le hL') (Cx.Wo (hnd:=hnd) hL' fun o' _=>ho o')
      ·have hn:p'∉ids:=by
        intro hmem
        obtain⟨i,hi'⟩:=List.getElem?_of_mem hmem
        have hlt:i<ids.length:=by
         rcases Nat.lt_or_ge i ids.length with h|h
         ·exact h
         ·rw[List.getElem?_eq_none h] at hi';cases hi'
        obtain⟨w,hw⟩:=Jy (q:=q) hks (F0+i) (Nat.le_add_right _ _) (by omega)
        obtain⟨kk,yy,z,h1,h2,_,_⟩:=Pk r.obs q hq _ _ hw
        obtain⟨o',h5,h6,h7⟩:=Ph h1
        rw[Nat.add_sub_cancel_left,hi'] at h6
        cases h6
        exact OB h2 (hro _ h7)
       refine⟨fun w hw=> ?_,fun s=> ?_⟩
       ·have hw':look (rQ (jM ids F0) (kC R r.obs q')++st.ob) p'=some w:=hw
        rw[vo] at hw'
        split at hw'
        ·rename_i z hz
         obtain⟨p'',h1,h2,h3⟩:=Pj hz
         exact absurd (List.mem_of_getElem? h2) hn
        ·exact hro _ hw'
       ·unfold ah.bK ah.eX
        rw[hno p' hn]
        exact⟨rfl,rfl⟩
    ·cases h
   ·cases h
  ·cases h
 ·cases h
end
end Aq
end
