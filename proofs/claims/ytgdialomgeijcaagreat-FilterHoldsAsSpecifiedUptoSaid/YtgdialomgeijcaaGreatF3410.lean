/- Part of the proof of a law. -/
import Derived.Test.YtgdialomgeijcaaGreatF3409
set_option linter.all false
set_option linter.unusedSimpArgs false
set_option linter.unusedSectionVars false
section
namespace Aq
open Go
set_option linter.unusedSectionVars false
set_option linter.unusedVariables false
section
variable {R:fI} {E:Env}
variable {ρ:aK} {top:Nat→Nat} {b au:Nat} {st:MS R.T} {fr:Fr} {σ:ah} {o:Oper}
theorem Dr {P:Program} {t e:TypeId} {n:Nat} (h:mW P t=some (n,e)):P.underlying t=some (.array n e):=by
 unfold mW at h
 split at h
 ·rename_i n' e' hu;cases h;exact hu
 ·cases h
theorem vP {t:TypeId} (h:mI E t=true):bF E.P t=some 1∧gB E.P t=some false:=by
 unfold mI at h
 split at h
 ·rename_i sz ag h1 h2
  rw[Bool.and_eq_true] at h
  rw[dn h.1] at h1
  cases ag
  ·exact⟨h1,h2⟩
  ·simp at h
 ·cases h
theorem vQ (a b:List Sg):gq (a++b)=gq a+gq b:=by rw[←eX,mO,List.length_append,eX,eX]
theorem SC {pre rest:List Sg} {n:Nat} (h:gq pre=n) (k:Nat):(bf (pre++rest)).drop (n+k)=(bf rest).drop k:=by
 rw[mO,←h,←eX,List.drop_append,List.drop_of_length_le (by omega),List.nil_append,Nat.add_sub_cancel_left]
theorem GA (s:Sg) (l:List Sg):bf (s::l)=s.vs++bf l:=rfl
theorem GD (s:Sg) (l:List Sg):gq (s::l)=s.w+gq l:=rfl
theorem LD {ρ:aK} {top:Nat→Nat} (k:IntKind):∀l:List Int,ay R ρ top (l.map (TV.int k)) (l.map (V.int k))
 | []=>rfl
 |x::l=>.cons' (by unfold Rl;rfl) (LD k l)
theorem aci {n:Nat} (v:Vec n):(List.range n).map v.nth=v.l:=by
 apply List.ext_getElem
 ·rw[List.length_map,List.length_range,v.h]
 ·intro i h1 h2
  rw[List.getElem_map,List.getElem_range]
  unfold Vec.nth
  rw[List.getD_eq_getElem?_getD,List.getElem?_eq_getElem h2];rfl
theorem LG {ρ:aK} {top:Nat→Nat}:∀ss:List Sg,ay R ρ top (CS ss) (bf ss)
 | []=>rfl
 |.i k x::l=>.cons' (by unfold Rl;rfl) (LG l)
 |.a k n v::l=>by
  show ay R ρ top ((List.range n).map (fun j=>TV.int k (v.nth j))++CS l) (v.l.map (V.int k)++bf l)
  refine ay.append ?_ (LG l)
  have:(List.range n).map (fun j=>TV.int (T:=R.T) k (v.nth j))=v.l.map (TV.int k):=by
   rw[←aci v,List.map_map];rfl
  rw[this]
  exact LD k v.l
theorem SE {t:TypeId} {ss:List Sg} {off:Nat} {v:TV R.T} (h:F6 E R t ss off=some v):∃y,eB E.P t (bf ss) off=some y∧Rl R ρ top v y:=by
 unfold F6 at h
 split at h
 ·rename_i pre rest sz ag h1 h2 h3
  obtain⟨e1,w1⟩:=qm h1
  split at h
  ·rename_i mid post h4
   obtain⟨e2,w2⟩:=qm h4
   have hd:(bf ss).drop off=bf mid++bf post:=by
    have:=SC (rest:=rest) w1 0
    rw[←e1,Nat.add_zero] at this
    rw[this,e2,mO];rfl
   have hlen:(bf ss).length=off+(sz+gq post):=by rw[eX,e1,vQ,w1,e2,vQ,w2]
   unfold eB;rw[h3,h2];simp only[Option.bind_some]
   cases ag with
   |true=>
    rw[cond_true] at h
    have hp:kK true sz (bf ss) off=some (.agg (bf mid)):=by
     unfold kK;rw[if_pos rfl,if_pos (by omega),hd,List.take_append_of_le_length (by rw[eX,w2];exact Nat.le_refl _),List.take_of_length_le (by rw[eX,w2];exact Nat.le_refl _)]
    split at h
    ·cases h;exact⟨_,hp,by unfold Rl;rfl⟩
    ·cases h;exact⟨_,hp,by unfold Rl;exact⟨_,rfl,LG mid⟩⟩
   |false=>
    rw[cond_false] at h
    split at h
    ·rename_i k x
     cases h
     refine⟨.int k x, ?_,by unfold Rl;rfl⟩
     unfold kK;simp only[Bool.false_eq_true,if_false]
     have:=congrArg (fun l=>l[0]?) hd
     rw[List.getElem?_drop,Nat.add_zero] at this
     rw[this];rfl
    ·cases h
  ·cases h
 ·cases h
theorem SF {n:Nat} (v:Vec n) {i:Int} (h:i.toNat<n):v.l[i.toNat]? =some (v.at' i):=by
 unfold Vec.at'
 rw[List.getD_eq_getElem?_getD,List.getElem?_eq_getElem (by rw[v.h];exact h)];rfl
theorem SG {ss pre post:List Sg} {off n:Nat} {k:IntKind} {v:Vec n} {i:Int} {t:TypeId} (h:lN ss off=some (pre,.a k n v::post)) (hi:i.toNat<n) (ht:mI E t=true):eB E.P t (bf ss) (off+i.toNat)=some (.int k (v.at' i)):=by
 obtain⟨e1,w1⟩:=qm h
 obtain⟨h1,h2⟩:=vP ht
 unfold eB;rw[h1,h2];simp only[Option.bind_some]
 unfold kK;simp only[Bool.false_eq_true,if_false]
 rw[e1,mO,List.getElem?_append_right (by rw[eX,w1];omega),eX,w1,Nat.add_sub_cancel_left,GA,List.getElem?_append_left (by rw[Sg.len];exact hi)]
 show (v.l.map (V.int k))[i.toNat]? =_
 rw[List.getElem?_map,SF v hi];rfl
theorem LH {n:Nat} {l:List Int} (h:l.length=n):(Vec.lit n l).l=l:=by
 unfold Vec.lit;rw[dif_pos h]
theorem acj {l:List Int} {a m:Nat} (h:a+m≤l.length):(List.range m).map (fun j=>l.getD (a+j) 0)=(l.drop a).take m:=by
 apply List.ext_getElem
 ·rw[List.length_map,List.length_range,List.length_take,List.length_drop];omega
 ·intro i h1 h2
  rw[List.length_map,List.length_range] at h1
  rw[List.getElem_map,List.getElem_range,List.getElem_take,List.getElem_drop,List.getD_eq_getElem?_getD,List.getElem?_eq_getElem (by omega)];rfl
theorem acn {t:TypeId} {ss pre post:List Sg} {off n m:Nat} {k:IntKind} {v:Vec n} {i:Int} {y:TV R.T} (h:lN ss off=some (pre,.a k n v::post)) (hi:i.toNat+m≤n) (hs:KJ E R t k m n v i=some y):∃x,eB E.P t (bf ss) (off+i.toNat)=some x∧Rl R ρ top y x:=by
 obtain⟨e1,w1⟩:=qm h
 unfold KJ at hs
 split at hs
 ·rename_i m' e sz h1 h2 h3
  obtain⟨hc,hs⟩:=bU hs
  rw[Bool.and_eq_true] at hc
  have e2:=dn hc.1;have e3:=dn hc.2
  rw[e3] at h2
  have hp:eB E.P t (bf ss) (off+i.toNat)=some (.agg (((v.l.drop i.toNat).take m).map (V.int k))):=by
   unfold eB;rw[h3,h2];simp only[Option.bind_some]
   unfold kK
   rw[if_pos rfl,if_pos (by rw[eX,e1,vQ,w1,GD];show off+i.toNat+m≤off+(n+_);omega)]
   rw[e1,SC w1,GA]
   show some (V.agg ((((v.l.map (V.int k))++bf post).drop i.toNat).take m))=_
   rw[List.drop_append_of_le_length (by rw[List.length_map,v.h];omega),List.take_append_of_le_length (by rw[List.length_drop,List.length_map,v.h];omega),List.map_take,List.map_drop]
  refine⟨_,hp, ?_⟩
  have hl:((v.l.drop i.toNat).take m).length=m:=by rw[List.length_take,List.length_drop,v.h];omega
  split at hs
  ·cases hs
   unfold Rl
   show V.agg _= .agg (((v.slc i m).l.map (V.int k))++[])
   unfold Vec.slc
   rw[LH hl,List.append_nil]
  ·cases hs
   unfold Rl
   refine⟨_,rfl, ?_⟩
   have:=acj (l:=v.l) (a:=i.toNat) (m:=m) (by rw[v.h];exact hi)
   have e:(List.range m).map (fun j=>TV.int (T:=R.T) k (v.nth (i.toNat+j)))=((v.l.drop i.toNat).take m).map (TV.int k):=by
    rw[←this,List.map_map];rfl
   rw[e];exact LD k _
 ·cases hs
def kW:List gG→Nat
 | []=>0
 |.i _::l=>1+kW l
 |.a _ n::l=>n+kW l
theorem GH:∀ss:List Sg,kW (ss.map Sg.sk)=gq ss
 | []=>rfl
 |.i k x::l=>by show 1+kW (l.map Sg.sk)=1+gq l;rw[GH l]
 |.a k n v::l=>by show n+kW (l.map Sg.sk)=n+gq l;rw[GH l]
theorem aco:∀{ks:List gG} {cs:List (TV R.T)} {ss:List Sg} {vs:List V},vF ks cs=some ss→ay R ρ top cs vs→vs=bf ss∧gq ss=kW ks:=by
 intro ks
 induction ks with
 |nil=>
  intro cs ss vs h hr
  cases cs with
  |nil=>cases h;exact⟨hr.dO,rfl⟩
  |cons c cs=>cases h
 |cons k ks ih=>
  intro cs ss vs h hr
  cases k with
  |i k=>
   cases cs with
   |nil=>cases h
   |cons c cs=>
    obtain⟨v,ws,rfl,h1,h2⟩:=hr.bX
    cases c<;>first| (exact absurd (show none=some ss from h) (by simp))|skip
    rename_i k' x
    have h':(if k'=k then (match vF ks cs with
     |some r=>some (Sg.i k x::r)
     |none=>none) else none)=some ss:=h
    by_cases e:k'=k
    ·subst e
     rw[if_pos rfl] at h'
     cases hc:vF ks cs with
     |none=>rw[hc] at h';cases h'
     |some r=>
      rw[hc] at h';cases h'
      obtain⟨g1,g2⟩:=ih hc h2
      exact⟨by rw[h1.dZ,g1];rfl,by show 1+gq r=1+kW ks;rw[g2]⟩
    ·rw[if_neg e] at h';cases h'
  |a k n=>
   have h':(match vg k (cs.take n) with
    |some xs=>bif Nat.beq xs.length n then (match vF ks (cs.drop n) with
     |some r=>some (Sg.a k n (Vec.lit n xs)::r)
     |none=>none) else none
    |none=>none)=some ss:=by cases cs<;>exact h
   cases hx:vg k (cs.take n) with
   |none=>rw[hx] at h';cases h'
   |some xs=>
    rw[hx] at h'
    dsimp only at h'
    obtain⟨hb,h'⟩:=bU h'
    have hb:=dn hb
    cases hc:vF ks (cs.drop n) with
    |none=>rw[hc] at h';cases h'
    |some r=>
     rw[hc] at h';cases h'
     obtain⟨g1,g2⟩:=ih hc (hr.drop n)
     have g3:=Gx hx (hr.take n)
     refine⟨?_,by show n+gq r=n+kW ks;rw[g2]⟩
     show vs=(Vec.lit n xs).l.map (V.int k)++bf r
     rw[LH hb,←g3,←g1,List.take_append_drop]
theorem LJ:∀{a b:List gG},zS a b=true→a=b
 | [],[],_=>rfl
 |.i k::l,.i k'::l',h=>by
  have h':((if k=k' then true else false)&& zS l l')=true:=h
  rw[Bool.and_eq_true] at h'
  have e:k=k':=by by_cases e:k=k';exact e;rw[if_neg e] at h';cases h'.1
  rw[e,LJ h'.2]
 |.a k n::l,.a k' n'::l',h=>by
  have h':((if k=k' then true else false)&& Nat.beq n n'&& zS l l')=true:=h
  rw[Bool.and_eq_true,Bool.and_eq_true] at h'
  have e:k=k':=by by_cases e:k=k';exact e;rw[if_neg e] at h';cases h'.1.1
  rw[e,dn h'.1.2,LJ h'.2]
 | [],.i _::_,h=>by cases h
 | [],.a _ _::_,h=>by cases h
 |.i _::_,[],h=>by cases h
 |.a _ _::_,[],h=>by cases h
 |.i _::_,.a _ _::_,h=>by cases h
 |.a _ _::_,.i _::_,h=>by cases h
theorem Dt:∀ss:List Sg,bn (bf ss)=true
 | []=>rfl
 |.i k x::l=>by show (oneCell (.int k x)&& bn (bf l))=true;rw[Dt l];rfl
 |.a k n v::l=>by
  show bn (v.l.map (V.int k)++bf l)=true
  have h1:=Dt l
  unfold bn at h1⊢
  rw[List.all_append,h1,List.all_map];simp[oneCell]
theorem SH {ks:List gG} {tv:TV R.T} {ss:List Sg} {v:V} (h:F5 ks tv=some ss) (hr:Rl R ρ top tv v):v.cells=bf ss∧gq ss=kW ks∧dL v=true:=by
 unfold F5 at h
 split at h
 ·rename_i ss'
  obtain⟨h1,h⟩:=bU h
  cases h
  rw[hr.Da,LJ h1]
  exact⟨rfl,(GH ss).symm,rfl⟩
 ·obtain⟨l,rfl,hl⟩:=hr.iK
  obtain⟨h1,h2⟩:=aco h hl
  exact⟨h1,h2,rfl⟩
 ·rename_i k x
  split at h
  ·split at h
   ·rename_i e;subst e;cases h
    rw[hr.dZ];exact⟨rfl,rfl,rfl⟩
   ·cases h
  ·cases h
 ·cases h
theorem LK {k:IntKind}:∀{cs:List (TV R.T)} {vs:List V},xw k cs=true→ay R ρ top cs vs→vs=List.replicate cs.length (V.int k 0)
 | [],vs,_,hr=>hr.dO
 |c::cs,vs,h,hr=>by
  obtain⟨v,ws,rfl,h1,h2⟩:=hr.bX
  cases c<;>first| (exact absurd (show false=true from h) (by simp))|skip
  rename_i k' x
  have h':((if k'=k then (if x=0 then true else false) else false)&& xw k cs)=true:=h
  rw[Bool.and_eq_true] at h'
  have e1:k'=k:=by by_cases e:k'=k;exact e;rw[if_neg e] at h';cases h'.1
  have e2:x=0:=by by_cases e:x=0;exact e;rw[if_pos e1,if_neg e] at h';cases h'.1
  rw[h1.dZ,e1,e2,LK h'.2 h2];rfl
theorem acp:∀{ks:List gG} {cs:List (TV R.T)} {vs:List V},zR ks cs=true→ay R ρ top cs vs→vs=bf (ks.map F4):=by
 intro ks
 induction ks with
 |nil=>
  intro cs vs h hr
  cases cs with
  |nil=>exact hr.dO
  |cons c cs=>cases h
 |cons k ks ih=>
  intro cs vs h hr
  cases k with
  |i k=>
   cases cs with
   |nil=>cases h
   |cons c cs=>
    obtain⟨v,ws,rfl,h1,h2⟩:=hr.bX
    have h':(xw k [c]&& zR ks cs)=true:=h
    rw[Bool.and_eq_true] at h'
    have:=LK h'.1 (ay.cons' h1 ay.nil')
    cases this
    rw[ih h'.2 h2];rfl
  |a k n=>
   have h':(Nat.ble n cs.length&& xw k (cs.take n)&& zR ks (cs.drop n))=true:=by cases cs<;>exact h
   rw[Bool.and_eq_true,Bool.and_eq_true] at h'
   have h1:=Nat.le_of_ble_eq_true h'.1.1
   have h2:=LK h'.1.2 (hr.take n)
   have h3:=ih h'.2 (hr.drop n)
   rw[←List.take_append_drop n vs,h2,h3,List.length_take,Nat.min_eq_left h1]
   show _=(List.replicate n (0:Int)).map (V.int k)++bf (ks.map F4)
   rw[List.map_replicate]
theorem acr {pre mid post mid':List Sg} {off sz:Nat} (h1:gq pre=off) (h2:gq mid=sz) (h3:gq mid'=sz):dR (bf (pre++(mid++post))) off (bf mid')=bf (pre++(mid'++post)):=by
 unfold dR
 rw[mO,mO,mO,mO,eX,h3]
 rw[List.take_append_of_le_length (by rw[eX,h1];exact Nat.le_refl _),List.take_of_length_le (by rw[eX,h1];exact Nat.le_refl _)]
 rw[←List.append_assoc (bf pre) (bf mid),List.drop_append_of_le_length (by rw[List.length_append,eX,eX,h1,h2];exact Nat.le_refl _),List.drop_of_length_le (by rw[List.length_append,eX,eX,h1,h2];exact Nat.le_refl _)]
 rw[List.nil_append,List.append_assoc]
theorem SI {pre post:List Sg} {off n a:Nat} {k:IntKind} {v w:Vec n} {l:List Int} (h1:gq pre=off) (h2:a+l.length≤n) (h3:w.l=v.l.take a++l++v.l.drop (a+l.length)):dR (bf (pre++(.a k n v::post))) (off+a) (l.map (V.int k))=bf (pre++(.a k n w::post)):=by
 unfold dR
 rw[mO,mO,GA,GA]
 show ((bf pre++(v.l.map (V.int k)++bf post)).take (off+a)++l.map (V.int k)++(bf pre++(v.l.map (V.int k)++bf post)).drop (off+a+(l.map (V.int k)).length))=bf pre++(w.l.map (V.int k)++bf post)
 have hp:(bf pre).length=off:=by rw[eX,h1]
 have hv:(v.l.map (V.int k)).length=n:=by rw[List.length_map,v.h]
 rw[List.length_map]
 rw[List.take_append,List.take_of_length_le (by omega),hp,Nat.add_sub_cancel_left,List.take_append_of_le_length (by omega)]
 rw[List.drop_append,List.drop_of_length_le (by omega),hp,List.nil_append,show off+a+l.length-off=a+l.length by omega,List.drop_append_of_le_length (by omega)]
 rw[h3,List.map_append,List.map_append,List.map_take,List.map_drop]
 simp only[List.append_assoc]
theorem acs {l:List Int} {a:Nat} {y:Int} (h:a<l.length):l.set a y=l.take a++[y]++l.drop (a+1):=by
 rw[List.set_eq_take_append_cons_drop,if_pos h];simp
theorem LM {g:Nat} {t:TypeId} {k:IntKind} {n:Nat} {v:Vec n} (h:F8 E R g t=some ⟨k,n,v⟩):∃cs e,E.glob g=some cs∧cs=v.l.map (V.int k)∧mW E.P t=some (n,e)∧bF E.P t=some n∧gB E.P t=some true∧mI E e=true:=by
 unfold F8 at h
 split at h
 ·rename_i cs k' n' v' m e sz ag h1 h2 h3 h4 h5
  obtain⟨hc,h⟩:=bU h
  cases h
  simp only[Bool.and_eq_true] at hc
  obtain⟨⟨⟨⟨c1,c2⟩,c3⟩,c4⟩,c5⟩:=hc
  subst c1
  rw[dn c2] at h3;rw[dn c3] at h4
  refine⟨cs,e,h1, ?_,h3,h4,h5,c4⟩
  have key:∀(cs:List V) (l:List Int),F7 k cs l=true→cs=l.map (V.int k):=by
   intro cs
   induction cs with
   |nil=>intro l h;cases l with
    |nil=>rfl
    |cons y l=>cases h
   |cons c cs ih=>
    intro l h
    cases l with
    |nil=>cases c<;>cases h
    |cons y l=>
     cases c<;>first| (exact absurd (show false=true from h) (by simp))|skip
     rename_i k' x
     have h':((if k'=k then (if x=y then true else false) else false)&& F7 k cs l)=true:=h
     rw[Bool.and_eq_true] at h'
     have e1:k'=k:=by by_cases e:k'=k;exact e;rw[if_neg e] at h';cases h'.1
     have e2:x=y:=by by_cases e:x=y;exact e;rw[if_pos e1,if_neg e] at h';cases h'.1
     rw[e1,e2,ih l h'.2];rfl
  exact key cs v.l c5
 ·cases h
theorem GI {i:Int} {n:Nat} (h:CU i n=true):0≤i∧i<n∧i.toNat<n:=by
 have:=of_decide_eq_true h
 omega
theorem LP {k:IntKind} {i:Int} {n:Nat} (h:CU i n=true):idx (.int k i) n=some i.toNat:=by
 obtain⟨h1,h2,_⟩:=GI h
 simp[idx,jO,h1,h2]
theorem GJ {k:IntKind} {i:Int} {n:Nat} (h1:0≤i) (h2:i≤n):bnd (.int k i) n=some i.toNat:=by
 simp[bnd,jO,h1,h2]
theorem SK {n:Nat} {lo hi:Option Int} {vl vh:Option V} (hl:(lo=none∧vl=none)∨∃n k,lo=some n∧vl=some (.int k n)) (hh:(hi=none∧vh=none)∨∃n k,hi=some n∧vh=some (.int k n)) (hb:oK n lo hi=true):
 iN n n vl vh none=some ((bP lo).toNat,(dY n hi).toNat,n):=by
 rcases hl with ⟨rfl,rfl⟩| ⟨a,k,rfl,rfl⟩<;>rcases hh with ⟨rfl,rfl⟩| ⟨c,k',rfl,rfl⟩<;>simp only[oK,decide_eq_true_eq] at hb
 ·simp[iN,bP,dY]
 ·simp[iN,bP,dY,GJ hb.1 hb.2]
 ·simp[iN,bP,dY,GJ (i:=a) (n:=n) hb.1 (by omega)]
 ·simp[iN,bP,dY,GJ (i:=c) (n:=n) (by omega) hb.2.2.1,GJ (i:=a) (n:=c.toNat) hb.1 (by omega)]
theorem acu {P:Program} {t e:TypeId} {y:V} {ys cs:List V} {loc:Aq.Loc} {s off len cap:Nat} {ag:Bool} (he:iA P t=some e) (z1:bF P e=some 1) (z2:gB P e=some false) (q2:sO y=false) (q1:iZ σ false 1 aA y=some ys) (hone:ys.all (fun v=>bn v.cells)=true)
 (h4:σ.bD loc s=some cs) (hb:off+min ys.length len≤cs.length):copyV P σ t (.vw loc s off len cap 1 ag) y=some (.int .i64 (min ys.length len:Nat),σ.setObj loc s (.cells (dR cs off ((ys.take (min ys.length len)).flatMap V.cells)))):=by
 unfold copyV
 rw[he];simp only[Option.bind_some,z1,z2]
 rw[if_pos ⟨q2,rfl⟩,q1];simp only[Option.bind_some]
 rw[if_pos hone,h4];simp only[Option.bind_some]
 rw[if_pos ⟨trivial,by rw[Nat.mul_one];exact hb⟩]
theorem GK {t:TypeId} {x:TV R.T} {lo hi:Option (TV R.T)} {v:V} {vl vh:Option V} {r:bW R} (h:vG E R t x lo hi st=some r) (hx:Rl R ρ σ.top x v) (him:aB ρ b st fr σ)
 (hl:∀y,lo=some y→∃w,vl=some w∧Rl R ρ σ.top y w) (hln:lo=none→vl=none) (hh:∀y,hi=some y→∃w,vh=some w∧Rl R ρ σ.top y w) (hhn:hi=none→vh=none):lW ρ σ.top (kL E.P σ t v vl vh none) r:=by
 unfold vG at h
 split at h
 ·rename_i p off lo' hi' n e e1 e2 ha
  have b1:=Am e1 hl hln
  have b2:=Am e2 hh hhn
  obtain⟨hel,h⟩:=bU h
  obtain⟨z1,z2⟩:=vP hel
  obtain⟨s,h1,rfl⟩:=hx.lT
  have fin:∀(k:IntKind) (cs:List V),σ.bD (ρ.om.lc p) s=some cs→off+n≤cs.length→oK n lo' hi'=true→∃y,kL E.P σ t (.ref (ρ.om.lc p) s off) vl vh none=some y∧Rl R ρ σ.top (.sv p off k n lo' hi') y:=by
   intro k cs hc hlen hB
   obtain⟨p1,p2,p3,_,_⟩:=xM hB
   refine⟨_, ?_,by unfold Rl;exact⟨s,h1,hB,rfl⟩⟩
   unfold kL
   rw[Dr ha];dsimp only
   rw[z1,z2,SK b1 b2 hB,hc]
   simp only[Option.bind_some,Nat.mul_one]
   rw[if_pos hlen,if_neg (by omega)]
  split at h
  ·rename_i ss hl'
   obtain⟨s',h3,h4⟩:=him.rd hl'
   rw[h1] at h3;cases h3
   split at h
   ·rename_i pre k n' v' post hsp
    obtain⟨hb,h⟩:=bU h
    have:=dn hb;subst this
    cases h
    obtain⟨e3,hw⟩:=qm hsp
    intro hc
    exact fin k _ h4 (by rw[eX,e3,vQ,hw,GD];show off+n'≤off+(n'+_);omega) hc
   ·cases h
  ·rename_i cs hl'
   obtain⟨s',vs,h3,h4,h5⟩:=him.rd hl'
   rw[h1] at h3;cases h3
   split at h
   ·rename_i k _ _ _
    obtain⟨hb,h⟩:=bU h
    cases h
    intro hc
    exact fin k _ h4 (by rw[h5.length];exact Nat.le_of_ble_eq_true hb) hc
   ·cases h
  ·cases h
 ·rename_i cs off n e e1 e2 ha
  have b1:=Am e1 hl hln
  have b2:=Am e2 hh hhn
  obtain⟨hb,h⟩:=bU h
  rw[Bool.and_eq_true] at hb
  obtain⟨z1,z2⟩:=vP hb.1
  have hle:=Nat.le_of_ble_eq_true hb.2
  split at h
  ·rename_i k _ _ _
   split at h
   ·rename_i l hu
    cases h
    obtain⟨vs,rfl,hr⟩:=hx.qj
    have hv:=Gx hu hr
    have hlen:=hr.length
    have hsb:oK n none none=true:=rfl
    refine⟨.aj .sh (((l.drop off).take n).map (V.int k)), ?_,by unfold Rl;exact⟨.sh,rfl,trivial⟩⟩
    unfold kL
    rw[Dr ha];dsimp only
    rw[z1,z2,SK b1 b2 hsb]
    simp only[Option.bind_some,Nat.mul_one]
    have hn:off+n≤vs.length:=by rw[hlen];exact hle
    have e0:(bP none).toNat=0:=rfl
    have LQ:(dY n none).toNat=n:=by simp[dY]
    rw[if_pos ⟨hn,fun _=>⟨trivial,by rw[hv];unfold bn;rw[List.all_map];exact List.all_eq_true.2 fun _ _=>rfl⟩⟩,e0,LQ]
    have hl2:(List.take n (List.drop off l)).length=n:=by rw[hv,List.length_map] at hn;rw[List.length_take,List.length_drop];omega
    have:=LB k ((l.drop off).take n) ((l.drop off).drop n|>.map (V.int k))
    rw[←List.map_append,List.take_append_drop,hl2] at this
    rw[hv,Nat.sub_zero,Nat.add_zero,←List.map_drop,this]
   ·cases h
  ·cases h
 ·cases h
end
end Aq
end
section
namespace Aq
open Go
set_option linter.unusedSectionVars false
set_option linter.unusedVariables false
section
variable {R:fI} {E:Env}
variable {ρ:aK} {top:Nat→Nat} {b au:Nat} {st:MS R.T} {fr:Fr} {σ:ah} {o:Oper}
theorem oU.val {v:Option V} {r:bW R} (hv:lW ρ σ.top v r) (ho:∀y,v=some y→aS E fr σ au o=some (y,σ)):oU E st ρ au fr σ o r:=by
 cases r with
 |t x=>obtain⟨y,e,hr⟩:=hv;exact⟨y,.fu (ho y e),hr⟩
 |c c x=>intro hc;obtain⟨y,e,hr⟩:=hv hc;exact⟨y,.fu (ho y e),hr⟩
 |p α d o' f=>intro a ha;obtain⟨y,e,hr⟩:=hv a ha;exact⟨y,.fu (ho y e),hr⟩
 |w x s=>exact hv.elim
 |wc c x s=>exact hv.elim
theorem oU.tt {x:TV R.T} {y:V} (ho:aS E fr σ au o=some (y,σ)) (hr:Rl R ρ σ.top x y):oU E st ρ au fr σ o (.t x):=⟨y,.fu ho,hr⟩
theorem Du {x:Operand}:fF E fr (some x)=some (fr.ev E x):=rfl
theorem SL {top:Nat→Nat} {x y v:TV R.T} {w:V} (h:zQ true x y=some v) (hx:Rl R ρ top x w):Rl R ρ top v w:=by
 unfold zQ at h
 split at h<;>try cases h
 ·split at h
  ·cases h;exact hx
  ·cases h
 all_goals first|exact hx| (unfold Rl at hx⊢;exact hx)
theorem SN {top:Nat→Nat} {x y v:TV R.T} {w:V} (h:zQ false x y=some v) (hx:Rl R ρ top y w):Rl R ρ top v w:=by
 unfold zQ at h
 split at h<;>try cases h
 ·split at h
  ·rename_i e;subst e;cases h;exact hx
  ·cases h
 all_goals first|exact hx| (unfold Rl at hx⊢;exact hx)
theorem Aw {c a' b':Operand} {t:Bool} (hop:o.op= .pick c a' b') (hc:fr.ev E c= .bool t):aS E fr σ au o=some (if t then fr.ev E a' else fr.ev E b',σ):=by
 simp only[aS,hop,hc,j6,Option.map_some]
variable (hR:kY R)
include hR
theorem acv {t:TypeId} {m x:TV R.T} {v w:V} {ok:Bool} {r:bW R} (h:FX E R t m x ok st=some r) (hm:Rl R ρ σ.top m v) (hx:Rl R ρ σ.top x w) (hi:aB ρ b st fr σ):lW ρ σ.top (qM E.P σ t v w ok) r:=by
 unfold FX at h
 split at h
 ·rename_i o
  split at h
  ·rename_i k e m hl
   obtain⟨s,h1,rfl⟩:=hm.um
   obtain⟨s',h2,h3⟩:=hi.rd hl
   rw[h1] at h2;cases h2
   exact Lh hR h hx h3
  ·cases h
 ·rename_i k e m
  exact Lh hR h hx (by rw[hm.Ac];rfl)
 ·split at h
  ·split at h
   ·unfold Rl at hm;subst hm
    exact Lh hR h hx rfl
   ·cases h
  ·cases h
 ·cases h
omit hR in
theorem SQ {top:Nat→Nat} {x y:TV R.T} {v w:V} {r:Bool} (h:FY x y=some r) (hx:Rl R ρ top x v) (hy:Rl R ρ top y w):jM v w=some r:=by
 unfold FY at h
 split at h
 ·rw[hx.dZ,hy.dZ];exact h
 ·cases h;rw[hx.jJ,hy.jJ];rfl
 ·cases h
omit hR in
theorem SS {top:Nat→Nat} {t:TypeId} {x:TV R.T} {v:V} (h:FZ E t x=true) (hx:Rl R ρ top x v):iX E.P t v=true:=by
 unfold FZ at h
 split at h
 ·rename_i hu;rw[hx.dZ];unfold iX;rw[hu]
 ·rename_i hu;rw[hx.jJ];unfold iX;rw[hu]
 ·cases h
omit hR in
theorem SV {top:Nat→Nat} {x y:TV R.T} {v w:V} (hx:Rl R ρ top x v) (hy:Rl R ρ top y w):∀{ks vs:List (TV R.T)} {ks' vs':List (TV R.T)} {k l:List V},F3 x y ks vs=some (ks',vs')→ay R ρ top ks k→ay R ρ top vs l→
 ∃k' l',qL v w k l=some (k',l')∧ay R ρ top ks' k'∧ay R ρ top vs' l'
 | [],[],_,_,k,l,h,h1,h2=>by
   cases h
   rw[h1.dO,h2.dO]
   exact⟨_,_,rfl,.cons' hx rfl,.cons' hy rfl⟩
 | [],_::_,_,_,_,_,h,_,_=>by cases h
 |_::_,[],_,_,_,_,h,_,_=>by cases h
 |a::ks,b::vs,ks',vs',k,l,h,h1,h2=>by
  obtain⟨k0,k,rfl,g1,g2⟩:=h1.bX
  obtain⟨l0,l,rfl,g3,g4⟩:=h2.bX
  unfold F3 at h
  split at h
  ·rename_i c hc
   have he:=SQ hc hx g1
   cases c with
   |true=>cases h;exact⟨v::k,w::l,by simp[qL,he],.cons' hx g2,.cons' hy g4⟩
   |false=>
    rw[cond_false] at h
    split at h
    ·rename_i ks1 vs1 hs
     cases h
     obtain⟨k',l',e1,e2,e3⟩:=SV hx hy hs g2 g4
     exact⟨k0::k',l0::l',by simp[qL,he,e1],.cons' g1 e2,.cons' g3 e3⟩
    ·cases h
  ·cases h
theorem SX {t:TypeId} {m x y:TV R.T} {v w u:V} {r:bW R} (h:zM E R t m x y st=some r) (hm:Rl R ρ σ.top m v) (hx:Rl R ρ σ.top x w) (hy:Rl R ρ σ.top y u) (hi:aB ρ au st fr σ)
 (ho:∀σ',mX E.P σ t v w u=some σ'→aS E fr σ au o=some (aA,σ')):oU E st ρ au fr σ o r:=by
 unfold zM at h
 split at h
 ·rename_i p
  split at h
  ·rename_i k e m hl
   split at h
   ·rename_i kt et ht
    obtain⟨hk,h⟩:=bU h
    split at h
    ·rename_i a c ha hc
     cases h
     obtain⟨s,h1,rfl⟩:=hm.um
     obtain⟨s',h2,h3⟩:=hi.ob _ _ hl
     rw[h1] at h2;cases h2
     have hw:=RX hR hk ha hx
     subst hw
     unfold QH at hc
     obtain⟨hs,hc⟩:=bU hc
     have hu:u=aC R e c:=by
      have h4:=KW hR hc hy
      have h5:=Gz hR y u hs hy
      have h6:=h4.2.2.1 0 σ
      rw[iG h5] at h6
      exact Option.some.inj h6
     subst hu
     have hup:mX E.P σ t (.bq (ρ.om.lc p) s) (aC R k a) (aC R e c)=some (σ.setObj (ρ.om.lc p) s (.map ((vD (jy R k) a c m).map fun q=>aC R k q.1) ((vD (jy R k) a c m).map fun q=>aC R e q.2))):=by
      unfold mX
      rw[ht];simp only[Option.bind_some]
      rw[if_pos (Gs hR hk a a).2,h3]
      simp only[Option.bind_some]
      rw[RV hR hk a c m];rfl
     refine⟨aA,_,ρ,.fu (ho _ hup),(hi.le (Nat.le_succ _)).set p s ⟨s,h1,map_eq _ _ _ _ _⟩,rfl,by unfold Rl;rfl,fun q _=>aQ.set hl rfl⟩
    ·cases h
   ·cases h
  ·rename_i ks vs hl
   split at h
   ·rename_i kt et ht
    obtain⟨hk,h⟩:=bU h
    split at h
    ·rename_i ks' vs' hs
     cases h
     obtain⟨s,h1,rfl⟩:=hm.um
     obtain⟨s',k0,l0,h2,h3,h4,h5⟩:=hi.ob _ _ hl
     rw[h1] at h2;cases h2
     obtain⟨k1,l1,g1,g2,g3⟩:=SV hx hy hs h4 h5
     have hup:mX E.P σ t (.bq (ρ.om.lc p) s) w u=some (σ.setObj (ρ.om.lc p) s (.map k1 l1)):=by
      unfold mX
      rw[ht];simp only[Option.bind_some]
      rw[if_pos (SS hk hx),h3]
      simp only[Option.bind_some]
      rw[g1];rfl
     refine⟨aA,_,ρ,.fu (ho _ hup),(hi.le (Nat.le_succ _)).set p s ⟨s,k1,l1,h1,map_eq _ _ _ _ _,g2,g3⟩,rfl,by unfold Rl;rfl,fun q _=>aQ.set hl rfl⟩
    ·cases h
   ·cases h
  ·cases h
 ·cases h
omit hR in
theorem aB.at (h:aB ρ b st fr σ) {d:Nat} (hd:d<F0):(fr.d,d)=ρ.om.lc d:=by rw[h.d,Cx.abd _ hd]
omit hR in
theorem aB.SY (h:aB ρ b st fr σ) {x:Option Nat} (hd:∀d,x=some d→d<F0):(x.map fun t=>(fr.d,t))=x.map fun t=>ρ.om.lc t:=by
 cases x with
 |none=>rfl
 |some d=>exact congrArg some (h.at (hd d rfl))
theorem S9 {d s:Nat} {cs:List (TV R.T)} {l:List V} (hi:aB ρ b st fr σ) (hc:ay R ρ σ.top cs l) (hm:jT d cs=false):aB (ρ.jA d s) b (st.new d (.cells cs)) fr (σ.setObj (ρ.om.lc d) s (.cells l)):=
 hi.new d s ⟨s,l,oQ,p8 _ _ _ _,ay.kill d Ah rfl rfl cs l hm hc⟩
theorem Ta {d s:Nat} {ss:List Sg} (hi:aB ρ b st fr σ):aB (ρ.jA d s) b (st.new d (.sg ss)) fr (σ.setObj (ρ.om.lc d) s (.cells (bf ss))):=
 hi.new d s ⟨s,oQ,p8 _ _ _ _⟩
theorem LU {g:Nat} {cs:List V} (h:E.glob g=some cs):fr.ev E (.global g)= .aH cs 0:=by
 show (match E.glob g with|some cs=>V.aH cs 0|none=>V.raw (Value.pointer (some ⟨g,0,none⟩)))=_
 rw[h]
omit hR in
theorem Tc {top:Nat→Nat} {k:IntKind} (l:List Int):∀L:List Nat,ay R ρ top (L.map fun j=>(TV.int k (l.getD j 0):TV R.T)) (L.map fun j=>V.int k (l.getD j 0))
 | []=>ay.nil'
 |j::L=>ay.cons' (by unfold Rl;rfl) (Tc l L)
omit hR in
theorem acw {k:IntKind} {l:List Int} {m:Nat} (h:m≤l.length):((List.range m).map fun j=>V.int k (l.getD j 0))=(l.map (V.int k)).take m:=by
 apply List.ext_getElem
 ·rw[List.length_map,List.length_range,List.length_take,List.length_map];omega
 ·intro i h1 h2
  rw[List.length_map,List.length_range] at h1
  rw[List.getElem_map,List.getElem_range,List.getElem_take,List.getElem_map,List.getD_eq_getElem?_getD,List.getElem?_eq_getElem (show i<l.length by omega)]
  rfl
theorem acy {g:List (Nat×Bool)} (dP:∀d,o.dst=some d→d<F0) (hg:lU fr g) (hi:aB ρ au st fr σ) {r:bW R} (h:mJ E R g o.dst o.op st=some r):oU E st ρ au fr σ o r:=by
 unfold mJ at h
 split at h
 ·
  rename_i t hop
  split at h
  ·rename_i d ks cs hd hks hz
   obtain⟨hc,h⟩:=bU h
   cases h
   obtain⟨v,hv,hr⟩:=Al (ρ:=ρ) (top:=σ.top) hz
   obtain⟨l,rfl,hl⟩:=hr.iK
   have hl2:=acp hc hl
   refine⟨.ref (ρ.om.lc d) au 0,_,ρ.jA d au,.fu (o:=o) ?_,Ta hR (ss:=ks.map F4) (hi.le (Nat.le_succ _)),rfl,by unfold Rl;exact⟨au,oQ,rfl⟩,fun q hq=>aQ.new (fun e=>hq (by rw[hd,e]))⟩
   simp only[aS,hop,hd,Option.map_some,Option.bind_some,hv,V.cells,hl2,Dt,if_true,hi.at (dP _ hd)]
  ·cases h
 ·
  rename_i t x hop
  cases hz:E.qN t
  case true=>rw[hz] at h;cases h
  rw[hz,cond_false] at h
  split at h
  ·rename_i d ks v hd hks hv
   split at h
   ·rename_i ss hss
    cases h
    obtain⟨c1,c2,c3⟩:=SH hss (aR (E:=E) hi hg hv)
    refine⟨.ref (ρ.om.lc d) au 0,_,ρ.jA d au,.fu (o:=o) ?_,Ta hR (ss:=ss) (hi.le (Nat.le_succ _)),rfl,by unfold Rl;exact⟨au,oQ,rfl⟩,fun q hq=>aQ.new (fun e=>hq (by rw[hd,e]))⟩
    simp only[aS,hop,hz,Bool.false_eq_true,if_false,hd,Option.map_some,Option.bind_some,c1,c3,Dt,and_self,if_true,hi.at (dP _ hd)]
   ·cases h
  ·cases h
 ·
  rename_i t a hop
  split at h
  ·rename_i gl
   split at h
   ·rename_i k n v hv
    cases h
    obtain⟨cs,e,g1,g2,g3,g4,g5,g6⟩:=LM hv
    refine .tt (y:=.agg (v.l.map (V.int k))) ?_ ?_
    ·simp only[aS,hop,LU hR g1]
     unfold eB;rw[g4,g5];simp only[Option.bind_some]
     unfold kK
     rw[if_pos rfl,if_pos (by rw[g2,List.length_map,v.h];omega),List.drop_zero,List.take_of_length_le (by rw[g2,List.length_map,v.h];exact Nat.le_refl _),g2];rfl
    ·unfold Rl;show _=V.agg (v.l.map (V.int k)++[]);rw[List.append_nil]
   ·cases h
  ·split at h
   ·rename_i p off hv
    split at h
    ·rename_i ss hl
     split at h
     ·rename_i v hld
      cases h
      obtain⟨s,h1,h2⟩:=(aR (E:=E) hi hg hv).lT
      obtain⟨s',h3,h4⟩:=hi.rd hl
      rw[h1] at h3;cases h3
      obtain⟨y,hy,hr⟩:=SE (ρ:=ρ) (top:=σ.top) hld
      exact .tt (by simp only[aS,hop,h2,h4,Option.bind_some,hy,Option.map_some]) hr
     ·cases h
    ·cases h
   ·rename_i p off k n i m hv
    split at h
    ·rename_i ss hl
     obtain⟨s,h1,hi0,hi1,h2⟩:=(aR (E:=E) hi hg hv).Db
     obtain⟨s',h3,h4⟩:=hi.rd hl
     rw[h1] at h3;cases h3
     split at h
     ·rename_i pre k' n' v post hsp
      by_cases ek:k'=k
      ·subst ek
       rw[if_pos rfl] at h
       cases hb:Nat.beq n' n
       ·rw[hb] at h;cases h
       rw[hb,cond_true] at h
       have:=dn hb;subst this
       cases hc:(Nat.beq m 1&& mI E t)
       ·rw[hc,cond_false] at h
        split at h
        ·rename_i y hy
         cases h
         obtain⟨x,g1,g2⟩:=acn (ρ:=ρ) (top:=σ.top) hsp hi1 hy
         exact .tt (by simp only[aS,hop,h2,h4,Option.bind_some,g1,Option.map_some]) g2
        ·cases h
       ·rw[hc,cond_true] at h
        cases h
        rw[Bool.and_eq_true] at hc
        have:=dn hc.1;subst this
        exact .tt (y:=.int k' (v.at' i)) (by simp only[aS,hop,h2,h4,Option.bind_some,SG (i:=i) hsp (Nat.lt_of_lt_of_le (Nat.lt_succ_self _) hi1) hc.2,Option.map_some]) (by unfold Rl;rfl)
      ·rw[if_neg ek] at h;cases h
     ·cases h
    ·cases h
   ·rename_i k n v i hv
    obtain⟨he,h⟩:=bU h
    cases h
    obtain⟨h1,h2,h3⟩:=(aR (E:=E) hi hg hv).Gi
    obtain⟨z1,z2⟩:=vP he
    refine .tt (y:=.int k (v.at' i)) ?_ (by unfold Rl;rfl)
    simp only[aS,hop,h3]
    unfold eB;rw[z1,z2];simp only[Option.bind_some]
    unfold kK;simp only[Bool.false_eq_true,if_false]
    rw[List.getElem?_map,SF v (by omega)];rfl
   ·cases h
 ·
  rename_i t a x hop
  split at h
  ·rename_i p off v hv hx
   split at h
   ·rename_i ss sz hl hsz
    split at h
    ·rename_i pre rest hsp
     split at h
     ·rename_i mid post hsp2
      split at h
      ·rename_i mid' hco
       cases h
       obtain⟨s,h1,h2⟩:=(aR (E:=E) hi hg hv).lT
       obtain⟨s',h3,h4⟩:=hi.ob _ _ hl
       rw[h1] at h3;cases h3
       obtain⟨c1,c2,c3⟩:=SH hco (aR (E:=E) hi hg hx)
       obtain⟨e1,w1⟩:=qm hsp
       obtain⟨e2,w2⟩:=qm hsp2
       rw[GH,w2] at c2
       refine⟨aA,_,ρ,.fu (o:=o) ?_,(hi.le (Nat.le_succ _)).set p s (x:=.sg (pre++(mid'++post))) (a:=.cells (bf (pre++(mid'++post)))) ⟨s,h1,p8 _ _ _ _⟩,rfl,by unfold Rl;rfl,fun q _=>aQ.set hl rfl⟩
       simp only[aS,hop,h2,h4,Option.bind_some,c1]
       rw[if_pos ⟨by rw[hsz,eX,c2],by rw[eX,eX,e1,e2,vQ,vQ,w1,w2,c2];omega,Dt _⟩,e1,e2,acr w1 w2 c2]
      ·cases h
     ·cases h
    ·cases h
   ·cases h
  ·rename_i p off k n i m k' y hv hx
   split at h
   ·rename_i ss hl
    split at h
    ·rename_i pre k2 n' v post hsp
     by_cases ek:k2=k
     ·subst ek
      rw[if_pos rfl] at h
      by_cases Td:k'=k2
      ·subst Td
       rw[if_pos rfl] at h
       obtain⟨hb,h⟩:=bU h
       cases h
       rw[Bool.and_eq_true,Bool.and_eq_true] at hb
       have e1:=dn hb.1.1;subst e1
       have e2:=dn hb.1.2;subst e2
       obtain⟨z1,z2⟩:=vP hb.2
       obtain⟨s,h1,hi0,hi1,h2⟩:=(aR (E:=E) hi hg hv).Db
       obtain⟨s',h3,h4⟩:=hi.ob _ _ hl
       rw[h1] at h3;cases h3
       have hy:=(aR (E:=E) hi hg hx).dZ
       obtain⟨e1,w1⟩:=qm hsp
       refine⟨aA,_,ρ,.fu (o:=o) ?_,(hi.le (Nat.le_succ _)).set p s (x:=.sg (pre++(.a k' n' (v.set i y)::post))) (a:=.cells (bf (pre++(.a k' n' (v.set i y)::post)))) ⟨s,h1,p8 _ _ _ _⟩,rfl,by unfold Rl;rfl,fun q _=>aQ.set hl rfl⟩
       simp only[aS,hop,h2,h4,Option.bind_some,hy,V.cells]
       have acz:=SI (post:=post) (k:=k') (v:=v) (w:=v.set i y) (l:=[y]) w1 (show i.toNat+[y].length≤n' from hi1) (acs (by rw[v.h];omega))
       rw[if_pos ⟨by rw[z1];rfl,by rw[eX,e1,vQ,w1,GD];show off+i.toNat+1≤off+(n'+_);omega,rfl⟩,e1]
       rw[show [V.int k' y]=[y].map (V.int k') from rfl,acz]
      ·rw[if_neg Td] at h;cases h
     ·rw[if_neg ek] at h;cases h
    ·cases h
   ·cases h
  ·cases h
 ·
  rename_i t x i hop
  split at h
  ·rename_i n e k0 i ha hiv
   obtain⟨hel,h⟩:=bU h
   obtain⟨z1,z2⟩:=vP hel
   have hii:=(aR (E:=E) hi hg hiv).dZ
   split at h
   ·rename_i gl
    split at h
    ·rename_i k n' v hv
     cases h
     intro hin
     obtain⟨cs,e',g1,g2,g3,g4,g5,g6⟩:=LM hv
     rw[ha] at g3;cases g3
     obtain⟨j1,j2,j3⟩:=GI hin
     refine⟨.aH cs i.toNat,.fu ?_,by unfold Rl;exact⟨j1,j2,by rw[g2]⟩⟩
     simp only[aS,hop,LU hR g1,hii]
     unfold kM
     rw[Dr ha];dsimp only
     rw[z1];simp only[Option.bind_some,LP hin,Option.map_some,Nat.mul_one,Nat.zero_add]
    ·cases h
   ·split at h
    ·rename_i p off hv
     split at h
     ·rename_i ss hl
      split at h
      ·rename_i pre k n' v post hsp
       obtain⟨hb,h⟩:=bU h
       have:=dn hb;subst this
       cases h
       intro hin
       obtain⟨s,h1,h2⟩:=(aR (E:=E) hi hg hv).lT
       obtain⟨j1,j2,j3⟩:=GI hin
       refine⟨.ref (ρ.om.lc p) s (off+i.toNat),.fu ?_,by unfold Rl;exact⟨s,h1,j1,by omega,rfl⟩⟩
       simp only[aS,hop,h2,hii]
       unfold kM
       rw[Dr ha];dsimp only
       rw[z1];simp only[Option.bind_some,LP hin,Option.map_some,Nat.mul_one]
      ·cases h
     ·cases h
    ·cases h
  ·cases h
 ·
  rename_i t x i hop
  split at h
  ·rename_i n e k n' v k0 i ha hv hiv
   obtain⟨hb,h⟩:=bU h
   cases h
   rw[Bool.and_eq_true] at hb
   have:=dn hb.2;subst this
   obtain⟨z1,z2⟩:=vP hb.1
   have hii:=(aR (E:=E) hi hg hiv).dZ
   have hvv:=(aR (E:=E) hi hg hv).Da
   intro hin
   obtain⟨j1,j2,j3⟩:=GI hin
   refine⟨.int k (v.at' i),.fu ?_,by unfold Rl;rfl⟩
   simp only[aS,hop,hvv,hii]
   unfold sN
   rw[Dr ha];dsimp only
   rw[LP hin];simp only[Option.bind_some,z1,Nat.mul_one]
   have:=SG (E:=E) (t:=e) (ss:=[.a k n' v]) (pre:=[]) (post:=[]) (off:=0) (i:=i) rfl j3 hb.1
   rw[Nat.zero_add] at this
   rw[this];rfl
  ·cases h
 ·
  rename_i t x lo hi' hop
  split at h
  ·rename_i v hv
   have jl:=aR (E:=E) hi hg hv
   have ho:∀vl vh,fF E fr lo=vl→fF E fr hi'=vh→∀y,kL E.P σ t (fr.ev E x) vl vh none=some y→aS E fr σ au o=some (y,σ):=by
    rintro vl vh rfl rfl y hy
    simp only[aS,hop]
    rw[show fF E fr none=none from rfl,hy];rfl
   split at h
   ·exact .val (GK h jl hi (vl:=none) (vh:=none) (by intro y hy;cases hy) (fun _=>rfl) (by intro y hy;cases hy) (fun _=>rfl)) (ho _ _ rfl rfl)
   ·rename_i lo
    split at h
    ·rename_i l hl
     have hlr:=aR (E:=E) hi hg hl
     exact .val (GK h jl hi (vl:=some (fr.ev E lo)) (vh:=none) (by intro y hy;cases hy;exact⟨_,rfl,hlr⟩) (by intro hy;cases hy) (by intro y hy;cases hy) (fun _=>rfl)) (ho _ _ rfl rfl)
    ·cases h
   ·rename_i hi'
    split at h
    ·rename_i l hl
     have hlr:=aR (E:=E) hi hg hl
     exact .val (GK h jl hi (vl:=none) (vh:=some (fr.ev E hi')) (by intro y hy;cases hy) (fun _=>rfl) (by intro y hy;cases hy;exact⟨_,rfl,hlr⟩) (by intro hy;cases hy)) (ho _ _ rfl rfl)
    ·cases h
   ·rename_i lo hi'
    split at h
    ·rename_i l m hl hm
     have hlr:=aR (E:=E) hi hg hl
     have hmr:=aR (E:=E) hi hg hm
     exact .val (GK h jl hi (vl:=some (fr.ev E lo)) (vh:=some (fr.ev E hi')) (by intro y hy;cases hy;exact⟨_,rfl,hlr⟩) (by intro hy;cases hy) (by intro y hy;cases hy;exact⟨_,rfl,hmr⟩) (by intro hy;cases hy)) (ho _ _ rfl rfl)
    ·cases h
  ·cases h
 ·
  rename_i t x lo hi' mx hop
  split at h
  ·rename_i cp u l kh hh GL km e hv hvh hvm hu
   split at h
   ·rename_i sz hsz
    cases hb:Nat.beq sz (bR R u)
    ·rw[hb] at h;cases h
    rw[hb,cond_true] at h
    have:=dn hb;subst this
    obtain⟨c',h2,_⟩:=(aR (E:=E) hi hg hv).iV
    have eh:=(aR (E:=E) hi hg hvh).dZ
    have em:=(aR (E:=E) hi hg hvm).dZ
    have fin:∀(vl:Option V) (a:Nat) (L:List (Den R.T u)),fF E fr lo=vl→iN l.length l.length vl (some (.int kh hh)) (some (.int GL km))=some (a,hh.toNat,km.toNat)→(l.take hh.toNat).drop a=L→∃y,jB E fr σ au o y σ∧Rl R ρ σ.top (.aj .any u L) y:=by
     rintro vl a L hvl hsb rfl
     refine⟨.aj (if km.toNat=hh.toNat then .full else .sh) (((l.map (aC R u)).take hh.toNat).drop a),.fu ?_, ?_⟩
     ·simp only[aS,hop,h2]
      rw[hvl,show fF E fr (some hi')=some (.int kh hh) by rw[Du,eh],show fF E fr (some mx)=some (.int GL km) by rw[Du,em]]
      unfold kL
      rw[hu];dsimp only
      rw[hsz];simp only[Option.bind_some,List.length_map,hsb,Dk hR,if_true,Option.isNone_some,Bool.false_eq_true,and_false,if_false,Option.map_some]
     ·unfold Rl
      exact⟨_,by rw[Lg],trivial⟩
    split at h
    ·cases hf:QN E o.dst with
     |false=>
      rw[hf,cond_false] at h
      cases h
      intro hc
      rw[Bool.and_eq_true] at hc
      exact fin none 0 _ rfl (by simp[iN,nS hc.1,nS hc.2]) (by simp[mH])
     |true=>
      rw[hf,cond_true] at h
      cases h
      intro hc
      rw[Bool.and_eq_true,Bool.and_eq_true] at hc
      obtain⟨y,hy1,hy2⟩:=fin none 0 _ rfl (by simp[iN,nS hc.1,nS hc.2.1]) rfl
      have hkm:hh=km:=by simpa using hc.2.2
      subst hkm
      refine⟨.aj .full (((l.map (aC R u)).take hh.toNat).drop 0),.fu ?_, ?_⟩
      ·simp only[aS,hop,h2]
       rw[show fF E fr none=none from rfl,show fF E fr (some hi')=some (.int kh hh) by rw[Du,eh],show fF E fr (some mx)=some (.int GL hh) by rw[Du,em]]
       unfold kL
       rw[hu];dsimp only
       have hsb:iN l.length l.length none (some (.int kh hh)) (some (.int GL hh))=some (0,hh.toNat,hh.toNat):=by simp[iN,nS hc.1,nS hc.2.1]
       rw[hsz];simp only[Option.bind_some,List.length_map,hsb,Dk hR,if_true,Option.isNone_some,Bool.false_eq_true,and_false,if_false,Option.map_some]
      ·unfold Rl
       exact⟨.full,by rw[Lg];simp[mH],rfl⟩
    ·rename_i lo'
     split at h
     ·rename_i ka a hva
      cases h
      intro hc
      rw[Bool.and_eq_true,Bool.and_eq_true] at hc
      have ea:=(aR (E:=E) hi hg hva).dZ
      exact fin (some (.int ka a)) a.toNat _ (by rw[Du,ea]) (by simp[iN,nS hc.1,nS hc.2.1,nS hc.2.2]) (by simp[mH])
     ·cases h
   ·cases h
  ·cases h
 ·
  rename_i a b' x hop
  split at h
  ·rename_i p off k n lo hi' hv
   obtain⟨s,h1,hB,h2⟩:=(aR (E:=E) hi hg hv).vJ
   split at h
   ·rename_i e hu1 hu2
    split at h
    ·rename_i hu3
     split at h
     ·rename_i l hl
      cases h
      obtain⟨cs,c1,c2,c3,c4⟩:=Sq hR hi hl h1 hB
      obtain⟨p1,p2,p3,_,_⟩:=xM hB
      refine .tt (y:=.str (List.map (fun n:Int=>UInt8.ofNat n.toNat) l)) ?_ (by unfold Rl;rfl)
      simp only[aS,hop,h2]
      unfold sM
      rw[hu1,hu2];dsimp only
      rw[hu3,c1];dsimp only
      simp only[Option.bind_some]
      rw[if_pos (by omega),c3]
      have:=Lf (R:=R) l
      rw[show l.map (V.int .u8)=List.map (aC R (.int .u8)) l from rfl,this];rfl
     ·cases h
    ·cases h
   ·cases h
  ·cases h
 ·
  rename_i t x hop
  split at h
  ·rename_i m e p off k n lo hi' ha hv
   cases h
   intro hc
   have hc:=of_decide_eq_true hc
   obtain⟨s,h1,hB,h2⟩:=(aR (E:=E) hi hg hv).vJ
   obtain⟨p1,p2,p3,p4,p5⟩:=xM hB
   refine⟨.ref (ρ.om.lc p) s (off+(bP lo).toNat),.fu ?_,by unfold Rl;exact⟨s,h1,p4,by omega,rfl⟩⟩
   simp only[aS,hop,ha,h2,Option.bind_some]
   rw[if_pos ⟨hc.1,by omega⟩]
  ·rename_i m e c k l ha hv
   cases h
   intro hc
   have hc:=of_decide_eq_true hc
   obtain⟨c',h2,_⟩:=(aR (E:=E) hi hg hv).iV
   have hr:ay R ρ σ.top (QO R k m l) ((List.map (V.int k) l).take m):=by
    rw[←acw hc.2];exact Tc l _
   refine⟨.aH ((List.map (V.int k) l).take m) 0,.fu ?_,by unfold Rl;exact⟨_,rfl,hr⟩⟩
   simp only[aS,hop,ha,h2,Option.bind_some]
   rw[if_pos ⟨hc.1,by rw[List.length_map];exact hc.2,by unfold bn;rw[List.all_map];exact List.all_eq_true.2 fun _ _=>rfl⟩]
   rfl
  ·cases h
 ·
  rename_i c hop
  split at h
  ·rename_i p off k n lo hi' y cZ hvs
   split at h
   ·rename_i t ht
    split at h
    ·rename_i e he
     obtain⟨hel,h⟩:=bU h
     obtain⟨z1,z2⟩:=vP hel
     split at h
     ·rename_i l0 ss hsrc hl
      obtain⟨l,hl0⟩:∃l:List Int,l=l0:=⟨l0,rfl⟩
      subst hl0
      split at h
      ·rename_i pre k' n' v post hsp
       by_cases ek:k'=k
       ·subst ek
        rw[if_pos rfl] at h
        cases hb:Nat.beq n' n
        ·rw[hb] at h;cases h
        rw[hb,cond_true] at h
        have:=dn hb;subst this
        cases h
        have hargs:=rE (E:=E) hi hg hvs
        obtain⟨a1,as1,ea1,ra1,ra2⟩:=hargs.bX
        obtain⟨a2,as2,ea2,rb1,rb2⟩:=ra2.bX
        have ea3:=rb2.dO
        subst ea3;subst ea2
        obtain⟨s,h1,hB,rfl⟩:=ra1.vJ
        obtain⟨p1,p2,p3,p4,p5⟩:=xM hB
        obtain⟨s',h3,h4⟩:=hi.ob _ _ hl
        rw[h1] at h3;cases h3
        obtain⟨e1,w1⟩:=qm hsp
        obtain⟨q1,q2⟩:=Lm hR (σ:=σ) (ag:=false) (z:=aA) hsrc rb1
        have q1:iZ σ false 1 aA a2=some (List.map (V.int k') l):=q1
        have hlen:(dY n' hi'-bP lo).toNat=(dY n' hi').toNat-(bP lo).toNat:=by omega
        have hmin:min (List.map (V.int k') l).length ((dY n' hi').toNat-(bP lo).toNat)=(List.take (dY n' hi'-bP lo).toNat l).length:=by
         rw[List.length_map,List.length_take,hlen,Nat.min_comm]
        have hfl:((List.map (V.int k') l).take (List.take (dY n' hi'-bP lo).toNat l).length).flatMap V.cells=(List.take (dY n' hi'-bP lo).toNat l).map (V.int k'):=by
         have:∀m:List Int,(m.map (V.int k')).flatMap V.cells=m.map (V.int k'):=by
          intro m
          induction m with
          |nil=>rfl
          |cons x m ih=>rw[List.map_cons,List.flatMap_cons,ih];rfl
         rw[←List.map_take,this,List.length_take]
         congr 1
         by_cases hle:(dY n' hi'-bP lo).toNat≤List.length l
         ·rw[Nat.min_eq_left hle]
         ·rw[Nat.min_eq_right (by omega),List.take_of_length_le (Nat.le_refl _),List.take_of_length_le (by omega)]
        have hlt:(List.take (dY n' hi'-bP lo).toNat l).length≤(dY n' hi').toNat-(bP lo).toNat:=by rw[List.length_take,hlen];exact Nat.min_le_left _ _
        have hone:(List.map (V.int k') l).all (fun v=>bn v.cells)=true:=by rw[List.all_map];simp[bn,V.cells,oneCell]
        refine⟨_,_,ρ,.of (o:=o) fun S=> ?_,(hi.le (Nat.le_succ _)).set p s (x:=.sg (pre++(.a k' n' (v.Cw (bP lo) (List.take (dY n' hi'-bP lo).toNat l))::post))) (a:=.cells (bf (pre++(.a k' n' (v.Cw (bP lo) (List.take (dY n' hi'-bP lo).toNat l))::post)))) ⟨s,h1,p8 _ _ _ _⟩,rfl,by unfold Rl;rfl,fun q _=>aQ.set hl rfl⟩
        unfold opC
        rw[hop];dsimp only
        rw[cZ];dsimp only
        rw[ea1]
        have hbv:kN E fr.om (o.dst.map fun t=>(fr.d,t)) σ au .copy c.argTypes [.vw (ρ.om.lc p) s (off+(bP lo).toNat) ((dY n' hi').toNat-(bP lo).toNat) (n'-(bP lo).toNat) 1 false,a2]=(c.argTypes[0]?).bind fun t=>copyV E.P σ t (.vw (ρ.om.lc p) s (off+(bP lo).toNat) ((dY n' hi').toNat-(bP lo).toNat) (n'-(bP lo).toNat) 1 false) a2:=rfl
        rw[hbv,ht];simp only[Option.bind_some]
        rw[acu he z1 z2 q2 q1 hone h4 (by rw[hmin,eX,e1,vQ,w1,GD];show off+(bP lo).toNat+_≤off+(n'+_);omega),hmin,hfl]
        simp only[Option.map_some]
        rw[e1,SI (w:=v.Cw (bP lo) (List.take (dY n' hi'-bP lo).toNat l)) w1 (by omega) (by unfold Vec.Cw;rw[LH];simp only[List.length_append,List.length_take,List.length_drop,v.h] at*;omega)]
        try rfl
       ·rw[if_neg ek] at h;cases h
      ·cases h
     ·cases h
    ·cases h
   ·cases h
  ·cases h
 ·cases h
theorem acJ {om:Bool} {F:Nat→List (FR R)} (hF:bG E F) (aW:ρ.om.om=om) (dP:∀d,o.dst=some d→d<F0) {g:List (Nat×Bool)} (hg:lU fr g) (hi:aB ρ au st fr σ) {r:bW R} (h:nP E R om F g o.dst o.op st=some r):oU E st ρ au fr σ o r:=by
 unfold nP at h
 split at h
 ·
  rename_i x hop
  cases hz:qO E o.dst
  ·rw[hz] at h;dsimp only[cond_false] at h
   split at h
   ·rename_i v hv;cases h;exact .tt (y:=fr.ev E x) (by simp only[aS,hop,hz,Bool.false_eq_true,if_false]) (aR hi hg hv)
   ·cases h
  ·rw[hz] at h;dsimp only[cond_true] at h
   split at h
   ·rename_i p t hv
    split at h
    ·rename_i t' l0 hl
     split at h
     ·rename_i l hc
      cases h
      obtain⟨e1,e2⟩:=oO hc
      subst e1
      cases e2
      have hO:=hi.ob p _ hl
      have hrl:∀ρ',Rl R ρ' σ.top (.aj .any t' l0) (.aj .sh (l0.map (aC R t'))):=fun ρ'=>by unfold Rl;exact⟨.sh,rfl,trivial⟩
      rcases (aR (E:=E) hi hg hv).xG with ⟨s,h1,h2⟩| ⟨h1,h2⟩
      ·rcases hO.2 with h3| ⟨s',cs,h3,h4,h5⟩
       ·rw[h1] at h3;exact absurd h3.2 (by simp)
       ·rw[h1] at h3;cases h3
        have hlc:cs.length=l0.length*bR R t':=by rw[h5.length,Dl]
        have hlen:l0.length=ρ.ln p:=hO.1
        refine⟨.aj .sh (l0.map (aC R t')),σ.fE (ρ.om.lc p),ρ,.fu ?_,(hi.del p).le (Nat.le_succ _),rfl,hrl ρ,fun q _=>aQ.del hl rfl⟩
        simp only[aS,hop,hz,if_true,h2,pG,h4,Option.bind_some,Nat.zero_add,List.drop_zero]
        rw[List.take_of_length_le (by rw[hlc,hlen];exact Nat.le_refl _),Sd hR l0 cs h5,←hlen,Si hR l0,Sj hR l0]
        rw[if_pos ⟨by rw[hlc];exact Nat.le_refl _,rfl⟩]
      ·have hl0:l0=[]:=List.eq_nil_of_length_eq_zero (hO.1.trans h1)
       subst hl0
       refine⟨.aj .sh [],σ,ρ,.fu ?_,(hi.del' p).le (Nat.le_succ _),rfl,hrl ρ,fun q _=>aQ.del' hl rfl⟩
       simp only[aS,hop,hz,if_true]
       rcases h2 with h2|h2<;>rw[h2]<;>rfl
     ·cases h
    ·cases h
   ·rename_i k m hv
    cases h
    have hr:=aR (E:=E) hi hg hv
    refine .tt (y:=.int k m) ?_ (by unfold Rl;rfl)
    simp only[aS,hop,hz,if_true,hr.dZ,pG]
   ·cases h
 ·rename_i x hop
  split at h
  ·rename_i v hv;cases h;exact .tt (y:=fr.ev E x) (by simp only[aS,hop]) (aR hi hg hv)
  ·cases h
 ·
  rename_i c a' b' hop
  split at h
  ·rename_i j
   split at h
   ·rename_i t hc
    have hc':=(aR (E:=E) hi hg hc).mK
    split at h
    ·rename_i x y hx hy
     split at h
     ·rename_i v hv
      cases h
      refine .tt (Aw hop hc') ?_
      rw[zm] at hc'
      cases t
      ·exact SN hv (aR (E:=E) hi (.cons hc' hg) hy)
      ·exact SL hv (aR (E:=E) hi (.cons hc' hg) hx)
     ·cases h
    ·cases h
   ·rename_i t hc
    have hc':=(aR (E:=E) hi hg hc).qh
    split at h
    ·rename_i v hv
     cases h
     refine .tt (Aw hop hc') ?_
     cases t
     ·exact aR (E:=E) hi hg hv
     ·exact aR (E:=E) hi hg hv
    ·cases h
   ·cases h
  ·cases h
 ·
  rename_i t hop
  split at h
  ·rename_i d z hd hz
   obtain⟨hc,h⟩:=bU h
   cases h
   simp only[Bool.and_eq_true,Bool.not_eq_true'] at hc
   obtain⟨v,hv,hr⟩:=Al (ρ:=ρ) (top:=σ.top) hz
   have hng:vo z=true:=by
    cases z<;>first|rfl| (have:=hc.1;simp[TV.cells,vk,Ko] at this)
   obtain⟨hcells,_⟩:=rF hng hr
   refine⟨.ref (ρ.om.lc d) au 0,_,ρ.jA d au,.fu (o:=o) ?_,S9 hR (hi.le (Nat.le_succ _)) hcells hc.2,rfl,by unfold Rl;exact⟨au,oQ,rfl⟩,fun q hq=>aQ.new (fun e=>hq (by rw[hd,e]))⟩
   simp only[aS,hop,hd,Option.map_some,Option.bind_some,hv,Dj hc.1 hcells,if_true,hi.at (dP _ hd)]
  ·cases h
 ·
  rename_i t x hop
  cases hz:E.qN t with
  |true=>
   rw[hz,cond_true] at h
   split at h
   ·rename_i v hv
    obtain⟨hc,h⟩:=bU h
    cases h
    rw[Bool.and_eq_true] at hc
    have hr:=aR (E:=E) hi hg hv
    obtain⟨hcells,hnr⟩:=rF hc.2 hr
    refine .tt (y:=.aH (fr.ev E x).cells 0) ?_ ?_
    ·simp only[aS,hop,hz,if_true,Gz hR _ _ hc.1 hr,hnr,and_self]
    ·unfold Rl;exact⟨_,rfl,hcells⟩
   ·cases h
  |false=>
  rw[hz,cond_false] at h
  split at h
  ·rename_i d v hd hv
   obtain⟨hc,h⟩:=bU h
   cases h
   simp only[Bool.and_eq_true,Bool.not_eq_true'] at hc
   have hr:=aR (E:=E) hi hg hv
   obtain⟨hcells,hnr⟩:=rF hc.1.2 hr
   refine⟨.ref (ρ.om.lc d) au 0,_,ρ.jA d au,.fu (o:=o) ?_,S9 hR (hi.le (Nat.le_succ _)) hcells hc.2,rfl,by unfold Rl;exact⟨au,oQ,rfl⟩,fun q hq=>aQ.new (fun e=>hq (by rw[hd,e]))⟩
   simp only[aS,hop,hz,Bool.false_eq_true,if_false,hd,Option.map_some,Option.bind_some,Dj hc.1.1 hcells,hnr,and_self,if_true,hi.at (dP _ hd)]
  ·cases h
 ·
  rename_i t parts hop
  split at h
  ·rename_i pl z ps hpl hz hps
   split at h
   ·rename_i cs hcs
    cases h
    obtain⟨zv,hzv,Li⟩:=Al (ρ:=ρ) (top:=σ.top) hz
    obtain⟨e1,e2⟩:=K4 (E:=E) hi hg hps
    have hzc:ay R ρ σ.top z.cells zv.cells:=by
     refine(rF ?_ Li).1
     unfold tY at hz
     cases z<;>first|rfl|skip
     all_goals
      exfalso
      split at hz
      ·split at hz
       ·unfold zy at hz
        split at hz
        ·split at hz<;>cases hz
        ·unfold xg at hz;split at hz<;>cases hz
       ·cases hz
      ·cases hz
    obtain⟨l',f1,f2⟩:=RF (qs:=parts.toList.map fun p=>(p.1,fr.ev E p.2)) pl (by rw[e1];simp[Function.comp_def]) (by simpa [Function.comp_def] using e2) hzc hcs
    refine .tt (y:=.agg l') ?_ (by unfold Rl;exact⟨l',rfl,f2⟩)
    simp only[aS,hop,hpl,hzv,Option.bind_some]
    rw[f1];rfl
   ·cases h
  ·cases h
 ·
  rename_i t len parts hop
  split at h
  ·rename_i ps hps
   obtain⟨e1,e2⟩:=K4 (E:=E) hi hg hps
   refine .val (abO hR (qs:=parts.toList.map fun p=>(p.1,fr.ev E p.2)) h (by rw[e1];simp[Function.comp_def]) (by simpa [Function.comp_def] using e2)) fun y hy=> ?_
   simp only[aS,hop]
   rw[hy];rfl
  ·cases h
 ·
  rename_i t a hop
  split at h
  ·rename_i p off hv
   split at h
   ·rename_i cs hl
    split at h
    ·rename_i v hld
     cases h
     obtain⟨s,h1,h2⟩:=(aR (E:=E) hi hg hv).lT
     obtain⟨s',l,h3,h4,h5⟩:=hi.rd hl
     rw[h1] at h3;cases h3
     obtain⟨y,hy,hr⟩:=uy h5 hld
     exact .tt (by simp only[aS,hop,h2,h4,Option.bind_some,hy,Option.map_some]) hr
    ·cases h
   ·cases h
  ·rename_i cs off hv
   split at h
   ·rename_i v hld
    cases h
    obtain⟨l,h2,h5⟩:=(aR (E:=E) hi hg hv).qj
    obtain⟨y,hy,hr⟩:=uy h5 hld
    exact .tt (by simp only[aS,hop,h2,hy,Option.map_some]) hr
   ·cases h
  ·rename_i p τ i off hv
   split at h
   ·rename_i ob hl
    obtain⟨s,h1,_,h2⟩:=(aR (E:=E) hi hg hv).xH
    obtain⟨l,f,rfl,hf⟩:=abW h (hi.rd hl) h1
    intro y hy
    obtain⟨cs,w,h3,h4,h5⟩:=hf y hy
    exact⟨w,.fu (by simp only[aS,hop,h2,h3,Option.bind_some,h4,Option.map_some]),h5⟩
   ·cases h
  ·cases h
 ·
  rename_i t a x hop
  split at h
  ·rename_i p off v hv hx
   split at h
   ·rename_i cs sz hl hsz
    obtain⟨hc,h⟩:=bU h
    cases h
    simp only[Bool.and_eq_true] at hc
    obtain⟨⟨⟨c1,c2⟩,c3⟩,c4⟩:=hc
    obtain⟨s,h1,h2⟩:=(aR (E:=E) hi hg hv).lT
    obtain⟨s',l,h3,h4,h5⟩:=hi.ob _ _ hl
    rw[h1] at h3;cases h3
    obtain⟨h6,h7⟩:=rF c4 (aR (E:=E) hi hg hx)
    refine⟨aA,_,ρ,.fu (o:=o) ?_,(hi.le (Nat.le_succ _)).set p s ⟨s,_,h1,p8 _ _ _ _,Ld off h5 h6⟩,rfl,by unfold Rl;rfl,fun q _=>aQ.set hl rfl⟩
    simp only[aS,hop,h2,h4,Option.bind_some]
    rw[if_pos ⟨by rw[hsz,h6.length,dn c1],by rw[h6.length,h5.length];exact Nat.le_of_ble_eq_true c2,Dj c3 h6⟩]
   ·cases h
  ·cases h
 ·
  rename_i x hop
  split at h
  ·rename_i p off hv;cases h
   have hr:=aR (E:=E) hi hg hv
   obtain⟨s,h1,h2⟩:=hr.lT
   exact .tt (y:=fr.ev E x) (by simp only[aS,hop,h2]) hr
  ·rename_i p off hv;cases h
   have hr:=aR (E:=E) hi hg hv
   obtain⟨s,h2,h1⟩:=hr.qj
   exact .tt (y:=fr.ev E x) (by simp only[aS,hop,h2]) hr
  ·rename_i p τ i off hv;cases h
   have hr:=aR (E:=E) hi hg hv
   obtain⟨s,h1,_,h2⟩:=hr.xH
   exact .tt (y:=fr.ev E x) (by simp only[aS,hop,h2]) hr
  ·rename_i f a' b' hv;cases h
   have hr:=aR (E:=E) hi hg hv
   obtain⟨a',b',h2,h1⟩:=hr.jY
   exact .tt (y:=fr.ev E x) (by simp only[aS,hop,h2]) hr
  ·cases h
 ·
  rename_i op t x y t' hop
  split at h
  ·rename_i x' y' hx hy
   exact .val (abI h (aR (E:=E) hi hg hx) (aR (E:=E) hi hg hy)) fun z hz=>by simp only[aS,hop,hz,Option.map_some]
  ·cases h
 ·
  rename_i op t x hop
  split at h
  ·rename_i x' hx
   exact .val (abJ h (aR (E:=E) hi hg hx)) fun z hz=>by simp only[aS,hop,hz,Option.map_some]
  ·cases h
 ·
  rename_i a' b' x hop
  split at h
  ·rename_i x' hx
   exact .val (abK (σ:=σ) h (aR (E:=E) hi hg hx)) fun z hz=>by simp only[aS,hop,hz,Option.map_some]
  ·cases h
 ·
  rename_i f a' b' hop
  split at h
  ·rename_i xs ys hx hy
   cases h
   exact .tt (y:=.fn (.func f) (a'.toList.map (fr.ev E)) (b'.toList.map (fr.ev E))) (by simp only[aS,hop]) (by unfold Rl;exact⟨_,_,rfl,rE (E:=E) hi hg hx,rE (E:=E) hi hg hy⟩)
  ·cases h
 ·
  rename_i t hop
  split at h
  ·rename_i d k e hd ht
   split at h
   ·rename_i k' e' hk he
    cases h
    refine⟨.bq (ρ.om.lc d) au,_,ρ.jA d au,.fu (o:=o) ?_,(hi.le (Nat.le_succ _)).new d au (a:=.map [] []) ⟨au,oQ,map_eq σ (ρ.om.lc d) au [] []⟩,rfl,by unfold Rl;exact⟨au,oQ,rfl⟩,fun q hq=>aQ.new (fun e=>hq (by rw[hd,e]))⟩
    simp only[aS,hop,hd,Option.map_some,hi.at (dP _ hd)]
   ·cases h
    refine⟨.bq (ρ.om.lc d) au,_,ρ.jA d au,.fu (o:=o) ?_,(hi.le (Nat.le_succ _)).new d au (a:=.map [] []) ⟨au,[],[],oQ,map_eq σ (ρ.om.lc d) au [] [],rfl,rfl⟩,rfl,by unfold Rl;exact⟨au,oQ,rfl⟩,fun q hq=>aQ.new (fun e=>hq (by rw[hd,e]))⟩
    simp only[aS,hop,hd,Option.map_some,hi.at (dP _ hd)]
  ·cases h
 ·
  rename_i t l c hop
  split at h
  ·rename_i n m hn hm
   refine ab3 hR h (aR (E:=E) hi hg hn) (aR (E:=E) hi hg hm) hi rfl fun y σ' hy=>.fu ?_
   have e:(o.dst.map fun t=>(fr.d,t))=o.dst.map fun t=>(ρ.om.lc t):=hi.SY dP
   simp only[aS,hop]
   rw[e,hi.om,aW];exact hy
  ·cases h
 ·
  rename_i t x lo hi' hop
  split at h
  ·rename_i x' hx
   have jl:=aR (E:=E) hi hg hx
   split at h
   ·exact .val (Gr hR (σ:=σ) (vl:=none) (vh:=none) h jl (fun y hy=>by cases hy) (fun _=>rfl) (fun y hy=>by cases hy) (fun _=>rfl)) fun z hz=>by simp only[aS,hop,fF,hz,Option.map_some]
   ·rename_i lo
    split at h
    ·rename_i l hl
     exact .val (Gr hR (σ:=σ) (vl:=some (fr.ev E lo)) (vh:=none) h jl (fun y hy=>by cases hy;exact⟨_,rfl,aR (E:=E) hi hg hl⟩) (fun h=>by cases h) (fun y hy=>by cases hy) (fun _=>rfl)) fun z hz=>by simp only[aS,hop,fF,hz,Option.map_some]
    ·cases h
   ·rename_i hi2
    split at h
    ·rename_i l hl
     exact .val (Gr hR (σ:=σ) (vl:=none) (vh:=some (fr.ev E hi2)) h jl (fun y hy=>by cases hy) (fun _=>rfl) (fun y hy=>by cases hy;exact⟨_,rfl,aR (E:=E) hi hg hl⟩) (fun h=>by cases h)) fun z hz=>by simp only[aS,hop,fF,hz,Option.map_some]
    ·cases h
   ·rename_i lo hi2
    split at h
    ·rename_i l l2 hl hl2
     exact .val (Gr hR (σ:=σ) (vl:=some (fr.ev E lo)) (vh:=some (fr.ev E hi2)) h jl (fun y hy=>by cases hy;exact⟨_,rfl,aR (E:=E) hi hg hl⟩) (fun h=>by cases h) (fun y hy=>by cases hy;exact⟨_,rfl,aR (E:=E) hi hg hl2⟩) (fun h=>by cases h)) fun z hz=>by simp only[aS,hop,fF,hz,Option.map_some]
    ·cases h
  ·cases h
 ·
  rename_i t x f hop
  split at h
  ·rename_i x' hx
   have jl:=aR (E:=E) hi hg hx
   split at h
   ·rename_i v hv
    cases h
    unfold QF at hv
    split at hv
    ·rename_i p u hf
     split at hv
     ·rename_i q off
      cases hv
      obtain⟨s,h1,h2⟩:=jl.lT
      exact .tt (y:=.ref (ρ.om.lc q) s (off+p)) (by simp only[aS,hop,hf,Option.bind_some,h2]) (by unfold Rl;exact⟨s,h1,rfl⟩)
     ·rename_i q off
      cases hv
      obtain⟨l,h2,h1⟩:=jl.qj
      exact .tt (y:=.aH l (off+p)) (by simp only[aS,hop,hf,Option.bind_some,h2]) (by unfold Rl;exact⟨l,rfl,h1⟩)
     ·rename_i q τ i off
      cases hv
      obtain⟨s,h1,h3,h2⟩:=jl.xH
      exact .tt (y:=.ref (ρ.om.lc q) s (i.toNat*bR R τ+off+p)) (by simp only[aS,hop,hf,Option.bind_some,h2]) (by unfold Rl;exact⟨s,h1,h3,by rw[Nat.add_assoc]⟩)
     ·cases hv
    ·cases hv
   ·cases h
  ·cases h
 ·
  rename_i t x f hop
  split at h
  ·rename_i p u cs hf hx
   split at h
   ·rename_i v hv
    cases h
    obtain⟨l,h1,h2⟩:=(aR (E:=E) hi hg hx).iK
    obtain⟨y,hy,hr⟩:=uy h2 hv
    exact .tt (by simp only[aS,hop,hf,Option.bind_some,h1,hy,Option.map_some]) hr
   ·cases h
  ·cases h
 ·
  rename_i t x i hop
  split at h
  ·rename_i p τ y' hx hy
   exact .val (ab4 hR (om:=false) h (aR (E:=E) hi hg hx) (aR (E:=E) hi hg hy) hi) fun z hz=>by simp only[aS,hop,hz,Option.map_some]
  ·rename_i x' y' _ hx hy
   exact .val (acg hR h (aR (E:=E) hi hg hx) (aR (E:=E) hi hg hy)) fun z hz=>by simp only[aS,hop,hz,Option.map_some]
  ·cases h
 ·
  rename_i t x i hop
  split at h
  ·rename_i x' y' hx hy
   exact .val (ach h (aR (E:=E) hi hg hx) (aR (E:=E) hi hg hy)) fun z hz=>by simp only[aS,hop,hz,Option.map_some]
  ·cases h
 ·
  rename_i t x i ok hop
  split at h
  ·rename_i x' y' hx hy
   exact .val (acv hR h (aR (E:=E) hi hg hx) (aR (E:=E) hi hg hy) hi) fun z hz=>by simp only[aS,hop,hz,Option.map_some]
  ·cases h
 ·
  rename_i t m k v hop
  split at h
  ·rename_i m' k' v' hm hk hv
   exact SX hR h (aR (E:=E) hi hg hm) (aR (E:=E) hi hg hk) (aR (E:=E) hi hg hv) hi fun σ' hs=>by simp only[aS,hop,hs,Option.map_some]
  ·cases h
 ·rename_i t m k v hop
  split at h
  ·rename_i m' k' v' hm hk hv
   exact SX hR h (aR (E:=E) hi hg hm) (aR (E:=E) hi hg hk) (aR (E:=E) hi hg hv) hi fun σ' hs=>by simp only[aS,hop,hs,Option.map_some]
  ·cases h
 ·
  rename_i x i hop
  split at h
  ·rename_i vs hv
   split at h
   ·rename_i v hx
    cases h
    obtain⟨l,h1,h2⟩:=(aR (E:=E) hi hg hv).Gh
    obtain⟨y,hy,hr⟩:=h2.get hx
    exact .tt (by simp only[aS,hop,h1,hy,Option.map_some]) hr
   ·cases h
  ·cases h
 ·
  rename_i c hop
  split at h
  ·rename_i bi cZ
   split at h
   ·rename_i vs hvs
    have hrs:=rE (E:=E) hi hg hvs
    have step:∀y σ',kN E fr.om (o.dst.map fun t=>(fr.d,t)) σ au bi c.argTypes (c.args.toList.map (fr.ev E))=some (y,σ')→jB E fr σ au o y σ':=fun y σ' hb=>.of fun S=>by
     simp only[opC,hop,cZ,hb,Option.map_some]
    unfold blt at h
    split at h
    ·rename_i x
     split at h
     ·rename_i t ht
      split at h
      ·rename_i n hn
       cases h
       obtain⟨v,l,e,h1,h2⟩:=hrs.bX
       rw[h2.dO] at e
       refine⟨_,step _ σ ?_,by unfold Rl;rfl⟩
       rw[e]
       simp only[kN,ht,Option.bind_some,abR hn h1 hi,Option.map_some]
      ·cases h
     ·cases h
    ·rename_i x y
     split at h
     ·rename_i t u ht hu
      obtain⟨v,l,e,h1,h2⟩:=hrs.bX
      obtain⟨w,l',e',h3,h4⟩:=h2.bX
      subst e'
      rw[h4.dO] at e
      have e0:(o.dst.map fun t=>(fr.d,t))=o.dst.map fun t=>(ρ.om.lc t):=hi.SY dP
      have fin:zO E u=true→∀z σ',gT E.P om false σ au (o.dst.map fun t=>(ρ.om.lc t)) t v w=some (z,σ')→jB E fr σ au o z σ':=fun hss z σ' hz=>step z σ' (by
       rw[e,e0]
       unfold zO at hss
       simp only[kN,ht,hu,Option.bind_some,hi.om,aW]
       split at hss
       ·rename_i hu';rw[hu'];simp only[hz,Option.bind_some]
       ·rename_i hu';rw[hu'];simp only[hz,Option.bind_some]
       ·cases hss)
      cases Dv:om
      ·rw[Dv] at h fin
       have h':CP E R o.dst t u x y st=some r:=h
       have hss:zO E u=true:=by
        unfold CP at h'
        split at h'
        ·split at h'
         ·exact(bU h').1
         ·cases h'
        ·cases h'
       exact abQ hR (loc:=o.dst.map fun t=>(ρ.om.lc t)) h' h1 h3 hi (fin hss)
      ·rw[Dv] at h fin
       have h':CQ E R o.dst t u x y st=some r:=h
       have hss:zO E u=true:=by
        unfold CQ at h'
        split at h'
        ·split at h'
         ·exact(bU h').1
         ·cases h'
        ·cases h'
       exact ab2 hR h' h1 h3 hi rfl (fin hss)
     ·cases h
    ·rename_i x l
     split at h
     ·rename_i v hv
      cases h
      obtain⟨y,ys,e,h1,h2⟩:=hrs.bX
      obtain⟨w,hw,hr⟩:=Lp false hv h1 h2
      refine⟨w,step w σ ?_,hr⟩
      rw[e]
      simp only[kN,hw,Option.map_some]
     ·cases h
    ·rename_i x l
     split at h
     ·rename_i v hv
      cases h
      obtain⟨y,ys,e,h1,h2⟩:=hrs.bX
      obtain⟨w,hw,hr⟩:=Lp true hv h1 h2
      refine⟨w,step w σ ?_,hr⟩
      rw[e]
      simp only[kN,hw,Option.map_some]
     ·cases h
    ·cases h
   ·cases h
  ·rename_i f cZ
   split at h
   ·rename_i f' a' b' vs hf hvs
    cases himp:E.imp f' with
    |true=>rw[himp] at h;cases h
    |false=>
     rw[himp,cond_false] at h
     obtain⟨va,vb,h1,h2,h3⟩:=(aR (E:=E) hi hg hf).jY
     exact SB hR hF hop cZ h1 himp ((h2.append (rE (E:=E) hi hg hvs)).append h3) hi (fun _ hx=>hx) h
   ·cases h
  ·cases h
 ·cases h
theorem rG {om:Bool} {F:Nat→List (FR R)} (hF:bG E F) (aW:ρ.om.om=om) (dP:∀d,o.dst=some d→d<F0) {g:List (Nat×Bool)} (hg:lU fr g) (hi:aB ρ au st fr σ) {r:bW R} (h:rA E R om F g o.dst o.op st=some r):oU E st ρ au fr σ o r:=by
 unfold rA at h
 split at h
 ·rename_i r' hx;cases h;exact acy hR dP hg hi hx
 ·exact acJ hR hF aW dP hg hi h
end
end Aq
end
section
namespace Aq
open Go
set_option linter.unusedSectionVars false
set_option linter.unusedVariables false
section
variable {R:fI} {E:Env} {ρ ρ':aK} {b au:Nat} {st:MS R.T} {fr:Fr} {σ:ah} {o:Oper} (hR:kY R)
include hR
def acL (E:Env) (g:Nat) (r:FM R):Prop:=∀p q y q',r.F p q=some (y,q')→∀(ρ:aK) (vs:List V) (σ:ah),ρ.om.om=E.om g→(∀t,ρ.tk t=none)→ρ.om.lo≤σ.next→
 ay R ρ σ.top (gN R .any r.args p) vs→(∀o x,look (je R r.obs q) o=some x→dx ρ σ o x)→
 mg E g vs ρ.om.dp σ fun v σ'=>v=bT (aI R r.res y)∧(∀o x,look (je R r.obs q') o=some x→dx ρ σ' o x)∧σ.next≤σ'.next∧(∀l,l<σ.next→σ'.loops l=σ.loops l)∧(∀s,s<ρ.om.lo→σ'.top s=σ.top s)∧
  ∀L:Loc,L.1≤ρ.om.dp→ρ.om.out L→σ'.obj L=σ.obj L
def GN (E:Env) (M:Nat→List (FM R)):Prop:=∀g,∀r∈M g,E.imp g=true∧acL E g r
omit hR in
theorem Te {i:Nat}:∀{l:List Nat},aO i l=true→i∈l
 | [],h=>by cases h
 |j::l,h=>by
  have h':(Nat.beq i j||aO i l)=true:=h
  rw[Bool.or_eq_true] at h'
  rcases h' with h'|h'
  ·rw[dn h'];exact List.mem_cons_self ..
  ·exact List.mem_cons_of_mem _ (Te h')
omit hR in
theorem LV {i:Nat}:∀{l:List Nat},i∈l→aO i l=true
 | [],h=>by cases h
 |j::l,h=>by
  show (Nat.beq i j||aO i l)=true
  rw[Bool.or_eq_true]
  rcases List.mem_cons.1 h with h|h
  ·left;rw[h];exact Nat.beq_refl _
  ·right;exact LV h
omit hR in
theorem Tf:∀{l:List Nat} {n o p:Nat},look (iJ l n) o=some p→n≤p∧l[p-n]? =some o
 | [],_,_,_,h=>by cases h
 |a::l,n,o,p,h=>by
  have h':look ((a,n)::iJ l (n+1)) o=some p:=h
  by_cases e:o=a
  ·subst e;rw[gI] at h';cases h';exact⟨Nat.le_refl _,by simp⟩
  ·rw[eU _ _ e] at h'
   obtain⟨h1,h2⟩:=Tf h'
   refine⟨by omega, ?_⟩
   have:p-n=(p-(n+1))+1:=by omega
   rw[this];simpa using h2
omit hR in
theorem Tg:∀{l:List Nat},xB l=true→∀{i j o:Nat},l[i]? =some o→l[j]? =some o→i=j
 | [],_,i,j,o,hi,_=>by simp at hi
 |a::l,h,i,j,o,hi,hj=>by
  have h':(!(aO a l)&& xB l)=true:=h
  rw[Bool.and_eq_true,Bool.not_eq_true'] at h'
  cases i with
  |zero=>
   cases j with
   |zero=>rfl
   |succ j=>
    have e:a=o:=by simpa using hi
    have e2:l[j]? =some o:=by simpa using hj
    rw[e,LV (List.mem_of_getElem? e2)] at h'
    exact absurd h'.1 (by simp)
  |succ i=>
   cases j with
   |zero=>
    have e:a=o:=by simpa using hj
    have e2:l[i]? =some o:=by simpa using hi
    rw[e,LV (List.mem_of_getElem? e2)] at h'
    exact absurd h'.1 (by simp)
   |succ j=>rw[Tg h'.2 (show l[i]? =some o by simpa using hi) (show l[j]? =some o by simpa using hj)]
omit hR in
theorem LW:∀{l:List Nat} {n p:Nat} {x:Ob R.T},look (zW st (iJ l n)) p=some x→∃o,n≤p∧l[p-n]? =some o∧look st.ob o=some x
 | [],_,_,_,h=>by cases h
 |a::l,n,p,x,h=>by
  have up:look (zW st (iJ l (n+1))) p=some x→∃o,n≤p∧(a::l)[p-n]? =some o∧look st.ob o=some x:=fun h=>by
   obtain⟨o,h1,h2,h3⟩:=LW h
   refine⟨o,by omega, ?_,h3⟩
   have:p-n=(p-(n+1))+1:=by omega
   rw[this];simpa using h2
  have h':=h
  unfold iJ zW at h'
  split at h'
  ·rename_i y hy
   by_cases e:p=n
   ·subst e;rw[gI] at h';cases h';exact⟨a,Nat.le_refl _,by simp,hy⟩
   ·rw[eU _ _ e] at h';exact up h'
  ·exact up h'
omit hR in
theorem LX {L:List (Nat×Ob R.T)}:∀{l:List Nat} {n o:Nat} {y:Ob R.T},look (oM (iJ l n) L) o=some y→∃p,n≤p∧l[p-n]? =some o∧look L p=some y
 | [],_,_,_,h=>by cases h
 |a::l,n,o,y,h=>by
  have up:look (oM (iJ l (n+1)) L) o=some y→∃p,n≤p∧(a::l)[p-n]? =some o∧look L p=some y:=fun h=>by
   obtain⟨p,h1,h2,h3⟩:=LX h
   refine⟨p,by omega, ?_,h3⟩
   have:p-n=(p-(n+1))+1:=by omega
   rw[this];simpa using h2
  have h':=h
  unfold iJ oM at h'
  split at h'
  ·rename_i z hz
   by_cases e:o=a
   ·subst e;rw[gI] at h';cases h';exact⟨n,Nat.le_refl _,by simp,hz⟩
   ·rw[eU _ _ e] at h';exact up h'
  ·exact up h'
omit hR in
theorem Ti {L:List (Nat×Ob R.T)}:∀{l:List Nat} {n o:Nat},(∀p,n≤p→p<n+l.length→∃y,look L p=some y)→look (oM (iJ l n) L) o=none→o∉l
 | [],_,_,_,_=>by simp
 |a::l,n,o,hL,h=>by
  obtain⟨y,hy⟩:=hL n (Nat.le_refl _) (by simp)
  have h':=h
  unfold iJ oM at h'
  rw[hy] at h'
  by_cases e:o=a
  ·subst e;rw[gI] at h';cases h'
  ·rw[eU _ _ e] at h'
   have:=Ti (fun p h1 h2=>hL p (by omega) (by rw[List.length_cons];omega)) h'
   simp[e,this]
omit hR in
theorem GQ:∀{l:List Nat} {n:Nat} {obs:List (Nat×iT)} {q:lJ R.T obs},zX (iJ l n) obs=true→∀p,n≤p→p<n+l.length→∃y,look (je R obs q) p=some y
 | [],n,_,_,_,p,h1,h2=>by simp at h2;omega
 |a::l,n,[],_,h,_,_,_=>by cases h
 |a::l,n,[(j,k)],q,h,p,h1,h2=>by
  have h':(Nat.beq n j&& zX (iJ l (n+1)) [])=true:=h
  rw[Bool.and_eq_true] at h'
  have hj:=dn h'.1
  subst hj
  by_cases e:p=n
  ·subst e;exact⟨_,gI _ _ _⟩
  ·obtain⟨y,hy⟩:=GQ (q:=show lJ R.T [] from ()) h'.2 p (by omega) (by rw[List.length_cons] at h2;omega)
   cases hy
 |a::l,n,(j,k)::x::obs,q,h,p,h1,h2=>by
  have h':(Nat.beq n j&& zX (iJ l (n+1)) (x::obs))=true:=h
  rw[Bool.and_eq_true] at h'
  have hj:=dn h'.1
  subst hj
  show∃y,look ((n,jd R k q.1)::je R (x::obs) q.2) p=some y
  by_cases e:p=n
  ·subst e;exact⟨_,gI _ _ _⟩
  ·rw[eU _ _ e]
   exact GQ h'.2 p (by omega) (by rw[List.length_cons] at h2;omega)
omit hR in
theorem LY {L:List (Nat×Ob R.T)}:∀(l:List (Nat×iT)) (x:lJ R.T l),jW R L l=some x→∀i v,look (je R l x) i=some v→∃k y z,look L i=some y∧vB R k y=some z∧v=jd R k z∧(rD l=true→okO k=true)
 | [],x,hx,i,v,hv=>by cases hv
 | [(j,k)],x,hx,i,v,hv=>by
   unfold jW at hx
   split at hx
   ·rename_i y hy
    by_cases e:i=j
    ·subst e
     have hv':look [(i,jd R k x)] i=some v:=hv
     rw[gI] at hv';cases hv'
     exact⟨k,y,x,hy,hx,rfl,fun h=>by unfold rD at h;rw[Bool.and_eq_true] at h;exact h.1⟩
    ·have hv':look [(j,jd R k x)] i=some v:=hv
     rw[eU _ _ e] at hv';cases hv'
   ·cases hx
 | (j,k)::q::l,x,hx,i,v,hv=>by
   unfold jW at hx
   split at hx
   ·rename_i y hy
    cases hu:vB R k y with
    |none=>simp only[hu] at hx;cases hx
    |some z=>
     cases hs:jW R L (q::l) with
     |none=>simp only[hu,hs] at hx;cases hx
     |some p=>
      simp only[hu,hs] at hx
      obtain rfl:=Option.some.inj hx
      have hv':look ((j,jd R k z)::je R (q::l) p) i=some v:=hv
      by_cases e:i=j
      ·subst e
       rw[gI] at hv';cases hv'
       exact⟨k,y,z,hy,hu,rfl,fun h=>by unfold rD at h;rw[Bool.and_eq_true] at h;exact h.1⟩
      ·rw[eU _ _ e] at hv'
       obtain⟨k',y',z',h1,h2,h3,h4⟩:=LY (q::l) p hs i v hv'
       exact⟨k',y',z',h1,h2,h3,fun h=>h4 (by unfold rD at h;rw[Bool.and_eq_true] at h;exact h.2)⟩
   ·cases hx
omit hR in
theorem Tj:∀{l:List (Nat×iT)} {x:lJ R.T l},rD l=true→∀{i:Nat} {v:Ob R.T},look (je R l x) i=some v→∃k z,okO k=true∧v=jd R k z
 | [],x,_,i,v,hv=>by cases hv
 | [(j,k)],x,h,i,v,hv=>by
   unfold rD at h;rw[Bool.and_eq_true] at h
   have hv':look [(j,jd R k x)] i=some v:=hv
   by_cases e:i=j
   ·subst e;rw[gI] at hv';cases hv';exact⟨k,x,h.1,rfl⟩
   ·rw[eU _ _ e] at hv';cases hv'
 | (j,k)::q::l,x,h,i,v,hv=>by
   unfold rD at h;rw[Bool.and_eq_true] at h
   have hv':look ((j,jd R k x.1)::je R (q::l) x.2) i=some v:=hv
   by_cases e:i=j
   ·subst e;rw[gI] at hv';cases hv';exact⟨k,x.1,h.1,rfl⟩
   ·rw[eU _ _ e] at hv';exact Tj h.2 hv'
omit hR in
theorem Tk {top top':Nat→Nat} {t:Ty} {x:Den R.T t} {v:V} (h:Rl R ρ top (dN R .any t x) v):Rl R ρ' top' (dN R .any t x) v:=by
 cases t with
 |st n=>obtain⟨l,hv,hl⟩:=Rl.iK (R:=R) h;exact⟨l,hv,vK _ _ _ hl⟩
 |int k=>exact h
 |bool=>exact h
 |str=>exact h
 |slice t=>exact h
omit hR in
theorem Tm {top top':Nat→Nat}:∀{l:List Sk} {z:ak R.T l} {cs:List V},KP l=true→ay R ρ top (gN R .any l z) cs→ay R ρ' top' (gN R .any l z) cs
 | [],_,_,_,h=>h
 | [k],z,cs,hd,h=>by
   cases k<;>first| (cases hd;done)|skip
   rename_i t
   obtain⟨v,ws,rfl,h1,h2⟩:=ay.bX (ts:=[]) (show ay R ρ top [dN R .any t z] cs from h)
   rw[h2.dO]
   exact .cons' (Tk h1) rfl
 |k::q::l,z,cs,hd,h=>by
  cases k<;>first| (cases hd;done)|skip
  rename_i t
  obtain⟨v,ws,rfl,h1,h2⟩:=ay.bX (show ay R ρ top (dN R .any t z.1::gN R .any (q::l) z.2) cs from h)
  exact .cons' (Tk h1) (Tm (l:=q::l) hd h2)
omit hR in
theorem Tn {o p:Nat} {k:iT} {z:u6 R.T k} (hk:okO k=true) (hb:ρ'.ob p=ρ.ob o) (hn:ρ'.ln p=ρ.ln o) (hl:ρ'.om.lc p=ρ.om.lc o) (h:dx ρ σ o (jd R k z)):dx ρ' σ p (jd R k z):=by
 cases k with
 |cells l=>obtain⟨s,cs,h1,h2,h3⟩:=h;exact⟨s,cs,by rw[hb];exact h1,by rw[hl];exact h2,Tm hk h3⟩
 |st n=>obtain⟨s,cs,h1,h2,h3⟩:=h;exact⟨s,cs,by rw[hb];exact h1,by rw[hl];exact h2,vK _ _ _ h3⟩
 |map k e=>obtain⟨s,h1,h2⟩:=h;exact⟨s,by rw[hb];exact h1,by rw[hl];exact h2⟩
 |arr t=>
  refine⟨h.1.trans hn.symm, ?_⟩
  rcases h.2 with h| ⟨s,cs,h1,h2,h3⟩
  ·exact .inl ⟨h.1,by rw[hb];exact h.2⟩
  ·exact .inr ⟨s,cs,by rw[hb];exact h1,by rw[hl];exact h2,uo _ cs h3⟩
 |sg l=>obtain⟨s,h1,h2⟩:=h;exact⟨s,by rw[hb];exact h1,by rw[hl];exact h2⟩
omit hR in
mutual
theorem Rl.ren {top:Nat→Nat} {m:List (Nat×Nat)} (hm:∀o p,look m o=some p→ρ'.om.lc p=ρ.om.lc o∧ρ'.ob p=ρ.ob o∧ρ'.ln p=ρ.ln o):∀(x:TV R.T) (v:V),Rl R ρ top x v→Rl R ρ' top (ug m x) v
 |.ref o off,v,h=>by
  obtain⟨s,h1,h2⟩:=h
  unfold ug
  split
  ·rename_i p hp;obtain⟨a,b,c⟩:=hm _ _ hp;exact⟨s,by rw[b];exact h1,by rw[a];exact h2⟩
  ·unfold Rl;trivial
 |.bq o,v,h=>by
  obtain⟨s,h1,h2⟩:=h
  unfold ug
  split
  ·rename_i p hp;obtain⟨a,b,c⟩:=hm _ _ hp;exact⟨s,by rw[b];exact h1,by rw[a];exact h2⟩
  ·unfold Rl;trivial
 |.vw o t,v,h=>by
  unfold ug
  split
  ·rename_i p hp
   obtain⟨a,b,c⟩:=hm _ _ hp
   rcases h with ⟨s,h1,h2⟩| ⟨h1,h2⟩
   ·exact .inl ⟨s,by rw[b];exact h1,by rw[a,c];exact h2⟩
   ·exact .inr ⟨by rw[c];exact h1,h2⟩
  ·unfold Rl;trivial
 |.iq o t i off,v,h=>by
  obtain⟨s,h1,h2⟩:=h
  unfold ug
  split
  ·rename_i p hp;obtain⟨a,b,c⟩:=hm _ _ hp;exact⟨s,by rw[b];exact h1,by rw[a];exact h2⟩
  ·unfold Rl;trivial
 |.sv o _ _ _ _ _,v,h=>by
  obtain⟨s,h1,h2⟩:=h
  unfold ug
  split
  ·rename_i p hp;obtain⟨a,b,c⟩:=hm _ _ hp;exact⟨s,by rw[b];exact h1,by rw[a];exact h2⟩
  ·unfold Rl;trivial
 |.sel o _ _ _ _ _,v,h=>by
  obtain⟨s,h1,h2⟩:=h
  unfold ug
  split
  ·rename_i p hp;obtain⟨a,b,c⟩:=hm _ _ hp;exact⟨s,by rw[b];exact h1,by rw[a];exact h2⟩
  ·unfold Rl;trivial
 |.aj c t l,v,h=>by
  obtain⟨c',hv,hc⟩:=h
  unfold ug
  cases c with
  |own u=>exact⟨c',hv,trivial⟩
  |any=>exact⟨c',hv,trivial⟩
  |sh=>exact⟨c',hv,hc⟩
  |nil=>exact⟨c',hv,hc⟩
  |full=>exact⟨c',hv,hc⟩
 |.agg cs,v,h=>by obtain⟨l,hv,hl⟩:=h;exact⟨l,hv,ay.ren hm cs l hl⟩
 |.aT cs,v,h=>by obtain⟨l,hv,hl⟩:=h;exact⟨l,hv,ay.ren hm cs l hl⟩
 |.aH cs off,v,h=>by obtain⟨l,hv,hl⟩:=h;exact⟨l,hv,ay.ren hm cs l hl⟩
 |.fn f a b,v,h=>by obtain⟨a',b',hv,ha,hb⟩:=h;exact⟨a',b',hv,ay.ren hm a a' ha,ay.ren hm b b' hb⟩
 |.opt _ _ _,_,h=>h.elim
 |.int _ _,_,h=>h
 |.bool _,_,h=>h
 |.fq _,_,h=>h
 |.str _,_,h=>h
 |.dQ,_,h=>h
 |.dJ,_,h=>h
 |.dF,_,h=>h
 |.dK,_,h=>h
 |.d9,_,h=>h
 |.bL _ _ _,_,h=>h
 |.undef,_,h=>h
 |.sg _,_,h=>h
 |.nL _ _ _ _,_,h=>h
 |.gone,_,h=>h
theorem ay.ren {top:Nat→Nat} {m:List (Nat×Nat)} (hm:∀o p,look m o=some p→ρ'.om.lc p=ρ.om.lc o∧ρ'.ob p=ρ.ob o∧ρ'.ln p=ρ.ln o):∀(x:List (TV R.T)) (v:List V),ay R ρ top x v→ay R ρ' top (vH m x) v
 | [],_,h=>h
 |x::xs,_,⟨v,vs,e,h1,h2⟩=>⟨v,vs,e,Rl.ren hm x v h1,ay.ren hm xs vs h2⟩
end
omit hR in
mutual
theorem Rl.top {ρ:aK} {t t':Nat→Nat} (ht:∀u s,ρ.tk u=some s→t' s=t s):∀(x:TV R.T) (v:V),Rl R ρ t x v→Rl R ρ t' x v
 |.aj c ty l,v,h=>by
  obtain⟨c',hv,hc⟩:=h
  refine⟨c',hv, ?_⟩
  cases c<;>first|exact hc|skip
  rcases hc with hc|hc| ⟨s,h1,h2,h3⟩
  ·exact .inl hc
  ·exact .inr (.inl hc)
  ·exact .inr (.inr ⟨s,h1,h2,(ht _ _ h2).trans h3⟩)
 |.agg cs,v,h=>by obtain⟨l,hv,hl⟩:=h;exact⟨l,hv,ay.top ht cs l hl⟩
 |.aT cs,v,h=>by obtain⟨l,hv,hl⟩:=h;exact⟨l,hv,ay.top ht cs l hl⟩
 |.aH cs off,v,h=>by obtain⟨l,hv,hl⟩:=h;exact⟨l,hv,ay.top ht cs l hl⟩
 |.fn f a b,v,h=>by obtain⟨a',b',hv,ha,hb⟩:=h;exact⟨a',b',hv,ay.top ht a a' ha,ay.top ht b b' hb⟩
 |.ref _ _,_,h=>h
 |.bq _,_,h=>h
 |.vw _ _,_,h=>h
 |.iq _ _ _ _,_,h=>h
 |.opt _ _ _,_,h=>h.elim
 |.int _ _,_,h=>h
 |.bool _,_,h=>h
 |.fq _,_,h=>h
 |.str _,_,h=>h
 |.dQ,_,h=>h
 |.dJ,_,h=>h
 |.dF,_,h=>h
 |.dK,_,h=>h
 |.d9,_,h=>h
 |.bL _ _ _,_,h=>h
 |.undef,_,h=>h
 |.sg _,_,h=>h
 |.sv _ _ _ _ _ _,_,h=>h
 |.sel _ _ _ _ _ _,_,h=>h
 |.nL _ _ _ _,_,h=>h
 |.gone,_,h=>h
theorem ay.top {ρ:aK} {t t':Nat→Nat} (ht:∀u s,ρ.tk u=some s→t' s=t s):∀(x:List (TV R.T)) (v:List V),ay R ρ t x v→ay R ρ t' x v
 | [],_,h=>h
 |x::xs,_,⟨v,vs,e,h1,h2⟩=>⟨v,vs,e,Rl.top ht x v h1,ay.top ht xs vs h2⟩
end
omit hR in
theorem fM.top {fr:Fr} {ρ:aK} {t t':Nat→Nat} (ht:∀u s,ρ.tk u=some s→t' s=t s) {x:TV R.T} {v:V} (h:fM fr ρ t x v):fM fr ρ t' x v:=by
 cases x with
 |opt j w y=>exact⟨fun hc=>Rl.top ht y v (h.1 hc),h.2⟩
 |_=>exact .of (Rl.top ht _ v h)
omit hR in
theorem LZ {ρ:aK} {σ σ':ah} {p:Nat} (hp:σ'.obj (ρ.om.lc p)=σ.obj (ρ.om.lc p)) (ht:∀u s,ρ.tk u=some s→σ'.top s=σ.top s):∀{x:Ob R.T},dx ρ σ p x→dx ρ σ' p x
 |.cells cs,h=>by
  obtain⟨s,l,h1,h2,h3⟩:=h
  exact⟨s,l,h1,by unfold ah.bD at h2⊢;rw[hp];exact h2,ay.top ht _ _ h3⟩
 |.map k e m,h=>by
  obtain⟨s,h1,h2⟩:=h
  exact⟨s,h1,by unfold ah.dU at h2⊢;rw[hp];exact h2⟩
 |.smap ks vs,h=>by
  obtain⟨s,k,l,h1,h2,h3,h4⟩:=h
  exact⟨s,k,l,h1,by unfold ah.dU at h2⊢;rw[hp];exact h2,ay.top ht _ _ h3,ay.top ht _ _ h4⟩
 |.arr t l,h=>by
  refine⟨h.1, ?_⟩
  rcases h.2 with h| ⟨s,cs,h1,h2,h3⟩
  ·exact .inl h
  ·exact .inr ⟨s,cs,h1,by unfold ah.bD at h2⊢;rw[hp];exact h2,uo l cs h3⟩
 |.sg ss,h=>by
  obtain⟨s,h1,h2⟩:=h
  exact⟨s,h1,by unfold ah.bD at h2⊢;rw[hp];exact h2⟩
 |.gone,_=>trivial
 |.ro b,h=>LZ hp ht (x:=b) h
omit hR in
theorem aB.shift {ρ:aK} {b:Nat} {st:MS R.T} {fr:Fr} {σ σ':ah} (h:aB ρ b st fr σ) (hp:∀p,σ'.obj (ρ.om.lc p)=σ.obj (ρ.om.lc p)) (ht:∀s,s<b→σ'.top s=σ.top s):aB ρ b st fr σ':={h with
 fr:=fun i v hv=>(h.fr i v hv).top fun u s hu=>ht s (h.lt u s hu)
 ob:=fun o x hx=>LZ (hp o) (fun u s hu=>ht s (h.lt u s hu)) (h.ob o x hx)}
omit hR in
theorem Tq {top:Nat→Nat}:∀{l:List Sk} {y:ak R.T l},zY l=true→ay R ρ top (gN R .any l y) (aI R l y)
 | [],_,_=>rfl
 | [k],y,h=>by
   cases k<;>first| (cases h;done)|skip
   rename_i t
   cases t<;>first| (cases h;done)|skip
   all_goals exact .cons' rfl rfl
 |k::q::l,y,h=>by
  cases k<;>first| (cases h;done)|skip
  rename_i t
  cases t<;>first| (cases h;done)|skip
  all_goals exact .cons' rfl (Tq (l:=q::l) (y:=y.2) h)
omit hR in
theorem acM {top:Nat→Nat} {xs:List (TV R.T)} {vs:List V} (h:ay R ρ top xs vs):Rl R ρ top (QS xs) (bT vs):=by
 match xs,vs,h with
 | [],_,h=>rw[h.dO];exact⟨[],rfl,rfl⟩
 | [x],_,h=>obtain⟨v,l,rfl,h1,h2⟩:=h.bX;rw[h2.dO];exact h1
 |x::y::l,_,h=>
  obtain⟨v,ws,rfl,h1,h2⟩:=h.bX
  obtain⟨w,us,rfl,h3,h4⟩:=h2.bX
  exact⟨v::w::us,rfl,.cons' h1 (.cons' h3 h4)⟩
omit hR in
theorem Tt {m:List (Nat×Nat)} {A:List (TV R.T)} {B:List (Nat×Ob R.T)}:∀{l:List (FM R)} {r:FM R} {x:Option (ak R.T r.res×lJ R.T r.obs)},Gc R m A B l=some ⟨r,x⟩→r∈l∧∃p q,eF R r.args A=some p∧jW R B r.obs=some q∧zX m r.obs=true∧zY r.res=true∧rD r.obs=true∧x=r.F p q
 | [],_,_,h=>by cases h
 |s::l,r,x,h=>by
  unfold Gc at h
  split at h
  ·rename_i p q hp hq
   obtain⟨hb,h⟩:=bU h
   rw[Bool.and_eq_true,Bool.and_eq_true] at hb
   cases h
   exact⟨List.mem_cons_self ..,p,q,hp,hq,hb.1,hb.2.1,hb.2.2,rfl⟩
  ·obtain⟨h1,h2⟩:=Tt h
   exact⟨List.mem_cons_of_mem _ h1,h2⟩
def Cx.call (c:Cx) (om:Bool) (lo:Nat) (ids:List Nat) (hnd:xB ids=true):Cx where
 om:=om
 dp:=c.dp+1
 lo:=lo
 fl:=fun p=>if F0≤p then (ids[p-F0]?).map c.lc else none
 lt:=fun p L h=>by
  split at h
  ·rename_i hp
   obtain⟨o,_,rfl⟩:=Option.map_eq_some_iff.1 h
   exact⟨hp,Nat.lt_succ_of_le (c.Aa o)⟩
  ·cases h
 inj:=fun p q L h g=>by
  split at h
  ·split at g
   ·rename_i hp hq
    obtain⟨o,h1,rfl⟩:=Option.map_eq_some_iff.1 h
    obtain⟨o',h2,e⟩:=Option.map_eq_some_iff.1 g
    have:=c.KQ e
    subst this
    have:=Tg hnd h1 h2
    omega
   ·cases g
  ·cases h
omit hR in
theorem Cx.acN {c:Cx} {om:Bool} {lo:Nat} {ids:List Nat} {hnd:xB ids=true} {p o:Nat} (hp:F0≤p) (h:ids[p-F0]? =some o):(c.call om lo ids hnd).lc p=c.lc o:=by
 unfold Cx.lc Cx.call
 dsimp only
 rw[if_pos hp,h]
 rfl
omit hR in
theorem Cx.Tv {c:Cx} {om:Bool} {lo:Nat} {ids:List Nat} {hnd:xB ids=true} {L:Loc} (hL:L.1≤c.dp) (h:∀o∈ids,L≠c.lc o):(c.call om lo ids hnd).out L:=by
 intro p e
 unfold Cx.lc Cx.call at e
 dsimp only at e
 split at e
 ·rename_i M hM
  split at hM
  ·obtain⟨o,h1,rfl⟩:=Option.map_eq_some_iff.1 hM
   exact h o (List.mem_of_getElem? h1) e
  ·cases hM
 ·rw[e] at hL;dsimp only at hL;omega
theorem L6 {β:Type} {M:Nat→List (FM R)} (hM:GN E M) (hi:aB ρ au st fr σ) (hsn:au≤σ.next) {k:MS R.T→Option β} {x:β} (h:xC R M o st k=some x):
 ∃c f g a vb,o.op= .call c∧c.callee= .value f∧fr.ev E f= .fn (.func g) a vb∧E.imp g=true∧mg E g (a++c.args.toList.map (fr.ev E)++vb) (fr.d+1) σ fun v σ1=> ∃st1,aB ρ (au+1) st1 (fr.put o.dst v) σ1∧σ.next≤σ1.next∧(∀p,aQ false p st ρ σ st1 ρ σ1)∧k st1=some x:=by
 unfold xC at h
 split at h
 ·rename_i c hop
  split at h
  ·rename_i f cZ
   split at h
   ·rename_i g a' b' vs hf hvs
    obtain⟨hnd,h⟩:=bU h
    generalize ahx:oL (a'++vs++b') []=ids at*
    split at h
    ·rename_i r x' hfm
     obtain⟨⟨y,q'⟩,hy,hk⟩:=Option.bind_eq_some_iff.1 h
     obtain⟨hr,p,q,hp,hq,hks,hsc,hok,rfl⟩:=Tt hfm
     obtain⟨va,vb,qV,hva,hvb⟩:=(aR (E:=E) hi .nil hf).jY
     have hA:=(hva.append (rE (E:=E) hi .nil hvs)).append hvb
     let ρc:aK:=⟨fun p=>if F0≤p then (ids[p-F0]?).bind ρ.ob else none,fun _=>none,fun p=>if F0≤p then (match ids[p-F0]? with|some o=>ρ.ln o|none=>0) else 0,ρ.om.call (E.om g) σ.next ids hnd⟩
     have hρ:∀{p o},F0≤p→ids[p-F0]? =some o→ρc.om.lc p=ρ.om.lc o∧ρc.ob p=ρ.ob o∧ρc.ln p=ρ.ln o:=fun {p o} h1 h2=>by
      refine⟨Cx.acN (hnd:=hnd) h1 h2, ?_, ?_⟩
      ·show (if F0≤p then (ids[p-F0]?).bind ρ.ob else none)=_
       rw[if_pos h1,h2];rfl
      ·show (if F0≤p then (match ids[p-F0]? with|some o=>ρ.ln o|none=>0) else 0)=_
       rw[if_pos h1,h2]
     have hm:∀o p,look (iJ ids F0) o=some p→ρc.om.lc p=ρ.om.lc o∧ρc.ob p=ρ.ob o∧ρc.ln p=ρ.ln o:=fun o p hp=>by
      obtain⟨h1,h2⟩:=Tf hp
      exact hρ h1 h2
     obtain⟨himp,hF⟩:=hM g r hr
     obtain⟨n,v,σ',hcall,hv,acO,hnx,hlp,htp,hout⟩:=hF p q y q' hy ρc (va++c.args.toList.map (fr.ev E)++vb) σ rfl (fun _=>rfl) (Nat.le_refl _) (xL hR r.args p _ _ hp (ay.ren hm _ _ hA)) (fun i w hw=>by
      obtain⟨kk,yy,z,h1,h2,rfl,h4⟩:=LY r.obs q hq i w hw
      obtain⟨o',h5,h6,h7⟩:=LW h1
      obtain⟨e1,e2,e3⟩:=hρ h5 h6
      exact Tn (h4 hok) e2 e3 e1 (K8 hR h2 (hi.ob _ _ h7)))
     have hst:∀s,s<au→σ'.top s=σ.top s:=fun s hs=>htp s (Nat.lt_of_lt_of_le hs hsn)
     have hno:∀o',o'∉ids→σ'.obj (ρ.om.lc o')=σ.obj (ρ.om.lc o'):=fun o' ho'=>
      hout _ (Nat.le_succ_of_le (ρ.om.Aa o')) (Cx.Tv (hnd:=hnd) (ρ.om.Aa o') fun o'' h2 e=>ho' (by rw[ρ.om.KQ e];exact h2))
     have Lc:aB ρ (au+1) (⟨st.fr,oM (iJ ids F0) (je R r.obs q')++st.ob⟩:MS R.T) fr σ':={
      d:=hi.d
      om:=hi.om
      fr:=fun i w hw=>(hi.fr i w hw).top fun u s hu=>hst s (hi.lt u s hu)
      ob:=fun o' w hw=>by
       have hw':look (oM (iJ ids F0) (je R r.obs q')++st.ob) o'=some w:=hw
       rw[uq] at hw'
       split at hw'
       ·rename_i z hz
        cases hw'
        obtain⟨p',h1,h2,h3⟩:=LX hz
        obtain⟨kk,zz,h4,rfl⟩:=Tj hok h3
        obtain⟨e1,e2,e3⟩:=hρ h1 h2
        exact Tn h4 e2.symm e3.symm e1.symm (acO _ _ h3)
       ·rename_i hz
        have hn:=Ti (fun p' h1 h2=>GQ hks p' h1 h2) hz
        exact LZ (hno o' hn) (fun u s hu=>hst s (hi.lt u s hu)) (hi.ob _ _ hw')
      inj:=hi.inj
      lt:=fun t s ht=>Nat.lt_succ_of_lt (hi.lt t s ht)
      ge:=hi.ge
      nx:=Nat.le_succ_of_le hi.nx}
     refine⟨c,f,g,va,vb,hop,cZ,qV,himp,n,v,σ', ?_,_, ?_,hnx, ?_,hk⟩
     ·rw[hi.d];exact hcall
     ·rw[hv]
      exact Lc.dH o.dst (acM (Tq hsc))
     ·intro p'
      refine aQ.congr (st':=(⟨st.fr,oM (iJ ids F0) (je R r.obs q')++st.ob⟩:MS R.T)) ⟨rfl,rfl,rfl,hnx,⟨hlp,fun s hs=>hst s (Nat.lt_of_lt_of_le hs hi.nx)⟩,fun L hL ho=> ?_,fun hro=> ?_⟩ jK
      ·have hL':L.1≤ρ.om.dp:=by rcases hL with e|e;cases e;exact e
       exact hout L (Nat.le_succ_of_le hL') (Cx.Tv (hnd:=hnd) hL' fun o' _=>ho o')
      ·have hn:p'∉ids:=by
        intro hmem
        obtain⟨i,hi'⟩:=List.getElem?_of_mem hmem
        have hlt:i<ids.length:=by
         rcases Nat.lt_or_ge i ids.length with h|h
         ·exact h
         ·rw[List.getElem?_eq_none h] at hi';cases hi'
        obtain⟨w,hw⟩:=GQ (q:=q) hks (F0+i) (Nat.le_add_right _ _) (by omega)
        obtain⟨kk,yy,z,h1,h2,_,_⟩:=LY r.obs q hq _ _ hw
        obtain⟨o',h5,h6,h7⟩:=LW h1
        rw[Nat.add_sub_cancel_left,hi'] at h6
        cases h6
        exact K9 h2 (hro _ h7)
       refine⟨fun w hw=> ?_,fun s=> ?_⟩
       ·have hw':look (oM (iJ ids F0) (je R r.obs q')++st.ob) p'=some w:=hw
        rw[uq] at hw'
        split at hw'
        ·rename_i z hz
         obtain⟨p'',h1,h2,h3⟩:=LX hz
         exact absurd (List.mem_of_getElem? h2) hn
        ·exact hro _ hw'
       ·unfold ah.bD ah.dU
        rw[hno p' hn]
        exact⟨rfl,rfl⟩
    ·cases h
   ·cases h
  ·cases h
 ·cases h
end
end Aq
end
