import Derived.Test.YtabmooekodficaaGreatDoorF4410
set_option linter.all false
section
namespace Aq
open Go
section
variable {R:Reg} {E:Env}
variable {ρ:au} {top:Nat->Nat} {b aj:Nat} {st:MS R.T} {fr:Fr} {σ:Sig} {o:Oper}
theorem xS {P:Program} {t e:TypeId} {n:Nat} (h:arrT P t=some (n,e)):P.underlying t=some (.array n e):=by
 unfold arrT at h
 split at h
 ·rename_i n' e' hu;cases h;exact hu
 ·cases h
theorem oz {t:TypeId} (h:elG E t=true):szT E.P t=some 1/\isAggT E.P t=some false:=by
 unfold elG at h
 split at h
 ·rename_i sz ag h1 h2
  rw[RS] at h
  rw[aP h.1] at h1
  cases ag
  ·exact⟨h1,h2⟩
  ·simp at h
 ·cases h
theorem oC (a b:List Sg):sgW (a++b)=sgW a+sgW b:=by rw[<-bQ,iM,aaG,bQ,bQ]
theorem NG {pre rest:List Sg} {n:Nat} (h:sgW pre=n) (k:Nat):(sgV (pre++rest)).drop (n+k)=(sgV rest).drop k:=by
 rw[iM,<-h,<-bQ,afL,afO (by omega),List.nil_append,afs]
theorem BI (s:Sg) (l:List Sg):sgV (s::l)=s.vs++sgV l:=rfl
theorem BJ (s:Sg) (l:List Sg):sgW (s::l)=s.w+sgW l:=rfl
theorem G8 {ρ:au} {top:Nat->Nat} (k:IntKind):∀l:List Int,RlL R ρ top (l.map (TV.int k)) (l.map (V.int k))
 | []=>rfl
 |x::l=>.cons' (by unfold Rl;rfl) (G8 k l)
theorem YH {n:Nat} (v:Vec n):(List.range n).map v.nth=v.l:=by
 apply List.ext_getElem
 ·rw[ab3,afN,v.h]
 ·intro i h1 h2
  rw[afz,afA]
  unfold Vec.nth
  rw[ae5,afb h2];rfl
theorem G9 {ρ:au} {top:Nat->Nat}:∀ss:List Sg,RlL R ρ top (exG ss) (sgV ss)
 | []=>rfl
 |.i k x::l=>.cons' (by unfold Rl;rfl) (G9 l)
 |.a k n v::l=>by
  show RlL R ρ top ((List.range n).map (fun j=>TV.int k (v.nth j))++exG l) (v.l.map (V.int k)++sgV l)
  refine RlL.append ?_ (G9 l)
  have:(List.range n).map (fun j=>TV.int (T:=R.T) k (v.nth j))=v.l.map (TV.int k):=by
   rw[<-YH v,afK];rfl
  rw[this]
  exact G8 k v.l
theorem NH {t:TypeId} {ss:List Sg} {off:Nat} {v:TV R.T} (h:ldG E R t ss off=some v):∃y,ldT E.P t (sgV ss) off=some y/\Rl R ρ top v y:=by
 unfold ldG at h
 split at h
 ·rename_i pre rest sz ag h1 h2 h3
  obtain⟨e1,w1⟩:=kF h1
  split at h
  ·rename_i mid post h4
   obtain⟨e2,w2⟩:=kF h4
   have hd:(sgV ss).drop off=sgV mid++sgV post:=by
    have:=NG (rest:=rest) w1 0
    rw[<-e1,Nat.add_zero] at this
    rw[this,e2,iM];rfl
   have hlen:(sgV ss).length=off+(sz+sgW post):=by rw[bQ,e1,oC,w1,e2,oC,w2]
   unfold ldT;rw[h3,h2];simp only[Option.bind_some]
   cases ag with
   |true=>
    rw[cond_true] at h
    have hp:gu true sz (sgV ss) off=some (.agg (sgV mid)):=by
     unfold gu;rw[if_pos rfl,if_pos (by omega),hd,afM (by rw[bQ,w2];exact iP _),afm (by rw[bQ,w2];exact iP _)]
    split at h
    ·cases h;exact⟨_,hp,by unfold Rl;rfl⟩
    ·cases h;exact⟨_,hp,by unfold Rl;exact⟨_,rfl,G9 mid⟩⟩
   |false=>
    rw[cond_false] at h
    split at h
    ·rename_i k x
     cases h
     refine⟨.int k x,?_,by unfold Rl;rfl⟩
     unfold gu;simp only[aaB,if_false]
     have:=congrArg (fun l=>l[0]?) hd
     rw[List.getElem?_drop,Nat.add_zero] at this
     rw[this];rfl
    ·cases h
  ·cases h
 ·cases h
theorem NI {n:Nat} (v:Vec n) {i:Int} (h:i.toNat<n):v.l[i.toNat]? =some (v.at' i):=by
 unfold Vec.at'
 rw[ae5,afb (by rw[v.h];exact h)];rfl
theorem NJ {ss pre post:List Sg} {off n:Nat} {k:IntKind} {v:Vec n} {i:Int} {t:TypeId} (h:splitG ss off=some (pre,.a k n v::post)) (hi:i.toNat<n) (ht:elG E t=true):ldT E.P t (sgV ss) (off+i.toNat)=some (.int k (v.at' i)):=by
 obtain⟨e1,w1⟩:=kF h
 obtain⟨h1,h2⟩:=oz ht
 unfold ldT;rw[h1,h2];simp only[Option.bind_some]
 unfold gu;simp only[aaB,if_false]
 rw[e1,iM,List.getElem?_append_right (by rw[bQ,w1];omega),bQ,w1,afs,BI,afS (by rw[Sg.len];exact hi)]
 show (v.l.map (V.int k))[i.toNat]? =_
 rw[List.getElem?_map,NI v hi];rfl
theorem xU {n:Nat} {l:List Int} (h:l.length=n):(Vec.lit n l).l=l:=by
 unfold Vec.lit;rw[dif_pos h]
theorem YI {l:List Int} {a m:Nat} (h:a+m<=l.length):(List.range m).map (fun j=>l.getD (a+j) 0)=(l.drop a).take m:=by
 apply List.ext_getElem
 ·rw[ab3,afN,aev,aex];omega
 ·intro i h1 h2
  rw[ab3,afN] at h1
  rw[afz,afA,List.getElem_take,List.getElem_drop,ae5,afb (by omega)];rfl
theorem YJ {t:TypeId} {ss pre post:List Sg} {off n m:Nat} {k:IntKind} {v:Vec n} {i:Int} {y:TV R.T} (h:splitG ss off=some (pre,.a k n v::post)) (hi:i.toNat+m<=n) (hs:slG E R t k m n v i=some y):∃x,ldT E.P t (sgV ss) (off+i.toNat)=some x/\Rl R ρ top y x:=by
 obtain⟨e1,w1⟩:=kF h
 unfold slG at hs
 split at hs
 ·rename_i m' e sz h1 h2 h3
  obtain⟨hc,hs⟩:=aM hs
  rw[RS] at hc
  have e2:=aP hc.1;have e3:=aP hc.2
  rw[e3] at h2
  have hp:ldT E.P t (sgV ss) (off+i.toNat)=some (.agg (((v.l.drop i.toNat).take m).map (V.int k))):=by
   unfold ldT;rw[h3,h2];simp only[Option.bind_some]
   unfold gu
   rw[if_pos rfl,if_pos (by rw[bQ,e1,oC,w1,BJ];show off+i.toNat+m<=off+(n+_);omega)]
   rw[e1,NG w1,BI]
   show some (V.agg ((((v.l.map (V.int k))++sgV post).drop i.toNat).take m))=_
   rw[afQ (by rw[ab3,v.h];omega),afM (by rw[aex,ab3,v.h];omega),List.map_take,List.map_drop]
  refine⟨_,hp,?_⟩
  have hl:((v.l.drop i.toNat).take m).length=m:=by rw[aev,aex,v.h];omega
  split at hs
  ·cases hs
   unfold Rl
   show V.agg _= .agg (((v.slc i m).l.map (V.int k))++[])
   unfold Vec.slc
   rw[xU hl,aeX]
  ·cases hs
   unfold Rl
   refine⟨_,rfl,?_⟩
   have:=YI (l:=v.l) (a:=i.toNat) (m:=m) (by rw[v.h];exact hi)
   have e:(List.range m).map (fun j=>TV.int (T:=R.T) k (v.nth (i.toNat+j)))=((v.l.drop i.toNat).take m).map (TV.int k):=by
    rw[<-this,afK];rfl
   rw[e];exact G8 k _
 ·cases hs
def kW:List SgK->Nat
 | []=>0
 |.i _::l=>1+kW l
 |.a _ n::l=>n+kW l
theorem BK:∀ss:List Sg,kW (ss.map Sg.sk)=sgW ss
 | []=>rfl
 |.i k x::l=>by show 1+kW (l.map Sg.sk)=1+sgW l;rw[BK l]
 |.a k n v::l=>by show n+kW (l.map Sg.sk)=n+sgW l;rw[BK l]
theorem YK:∀{ks:List SgK} {cs:List (TV R.T)} {ss:List Sg} {vs:List V},cutG ks cs=some ss->RlL R ρ top cs vs->vs=sgV ss/\sgW ss=kW ks:=by
 intro ks
 induction ks with
 |nil=>
  intro cs ss vs h hr
  cases cs with
  |nil=>cases h;exact⟨hr.inv_nil,rfl⟩
  |cons c cs=>cases h
 |cons k ks ih=>
  intro cs ss vs h hr
  cases k with
  |i k=>
   cases cs with
   |nil=>cases h
   |cons c cs=>
    obtain⟨v,ws,rfl,h1,h2⟩:=hr.inv_cons
    cases c<;>first| (exact absurd (show none=some ss from h) (by simp))|skip
    rename_i k' x
    have h':(if k'=k then (match cutG ks cs with
     |some r=>some (Sg.i k x::r)
     |none=>none) else none)=some ss:=h
    by_cases e:k'=k
    ·subst e
     rw[if_pos rfl] at h'
     cases hc:cutG ks cs with
     |none=>rw[hc] at h';cases h'
     |some r=>
      rw[hc] at h';cases h'
      obtain⟨g1,g2⟩:=ih hc h2
      exact⟨by rw[h1.inv_int,g1];rfl,by show 1+sgW r=1+kW ks;rw[g2]⟩
    ·rw[if_neg e] at h';cases h'
  |a k n=>
   have h':(match unIs k (cs.take n) with
    |some xs=>bif Nat.beq xs.length n then (match cutG ks (cs.drop n) with
     |some r=>some (Sg.a k n (Vec.lit n xs)::r)
     |none=>none) else none
    |none=>none)=some ss:=by cases cs<;>exact h
   cases hx:unIs k (cs.take n) with
   |none=>rw[hx] at h';cases h'
   |some xs=>
    rw[hx] at h'
    dsimp only at h'
    obtain⟨hb,h'⟩:=aM h'
    have hb:=aP hb
    cases hc:cutG ks (cs.drop n) with
    |none=>rw[hc] at h';cases h'
    |some r=>
     rw[hc] at h';cases h'
     obtain⟨g1,g2⟩:=ih hc (hr.drop n)
     have g3:=BG hx (hr.take n)
     refine⟨?_,by show n+sgW r=n+kW ks;rw[g2]⟩
     show vs=(Vec.lit n xs).l.map (V.int k)++sgV r
     rw[xU hb,<-g3,<-g1,afF]
theorem He:∀{a b:List SgK},skEq a b=true->a=b
 | [],[],_=>rfl
 |.i k::l,.i k'::l',h=>by
  have h':((if k=k' then true else false)&& skEq l l')=true:=h
  rw[RS] at h'
  have e:k=k':=by by_cases e:k=k';exact e;rw[if_neg e] at h';cases h'.1
  rw[e,He h'.2]
 |.a k n::l,.a k' n'::l',h=>by
  have h':((if k=k' then true else false)&& Nat.beq n n'&& skEq l l')=true:=h
  rw[RS,RS] at h'
  have e:k=k':=by by_cases e:k=k';exact e;rw[if_neg e] at h';cases h'.1.1
  rw[e,aP h'.1.2,He h'.2]
 | [],.i _::_,h=>by cases h
 | [],.a _ _::_,h=>by cases h
 |.i _::_,[],h=>by cases h
 |.a _ _::_,[],h=>by cases h
 |.i _::_,.a _ _::_,h=>by cases h
 |.a _ _::_,.i _::_,h=>by cases h
theorem xV:∀ss:List Sg,oneCells (sgV ss)=true
 | []=>rfl
 |.i k x::l=>by show (oneCell (.int k x)&& oneCells (sgV l))=true;rw[xV l];rfl
 |.a k n v::l=>by
  show oneCells (v.l.map (V.int k)++sgV l)=true
  have h1:=xV l
  unfold oneCells at h1⊢
  rw[List.all_append,h1,List.all_map];simp[oneCell]
theorem NM {ks:List SgK} {tv:TV R.T} {ss:List Sg} {v:V} (h:coG ks tv=some ss) (hr:Rl R ρ top tv v):v.cells=sgV ss/\sgW ss=kW ks/\notRaw v=true:=by
 unfold coG at h
 split at h
 ·rename_i ss'
  obtain⟨h1,h⟩:=aM h
  cases h
  rw[hr.sZ,He h1]
  exact⟨rfl,(BK ss).symm,rfl⟩
 ·obtain⟨l,rfl,hl⟩:=hr.dL
  obtain⟨h1,h2⟩:=YK h hl
  exact⟨h1,h2,rfl⟩
 ·rename_i k x
  split at h
  ·split at h
   ·rename_i e;subst e;cases h
    rw[hr.inv_int];exact⟨rfl,rfl,rfl⟩
   ·cases h
  ·cases h
 ·cases h
theorem Hf {k:IntKind}:∀{cs:List (TV R.T)} {vs:List V},allZ k cs=true->RlL R ρ top cs vs->vs=List.replicate cs.length (V.int k 0)
 | [],vs,_,hr=>hr.inv_nil
 |c::cs,vs,h,hr=>by
  obtain⟨v,ws,rfl,h1,h2⟩:=hr.inv_cons
  cases c<;>first| (exact absurd (show false=true from h) (by simp))|skip
  rename_i k' x
  have h':((if k'=k then (if x=0 then true else false) else false)&& allZ k cs)=true:=h
  rw[RS] at h'
  have e1:k'=k:=by by_cases e:k'=k;exact e;rw[if_neg e] at h';cases h'.1
  have e2:x=0:=by by_cases e:x=0;exact e;rw[if_pos e1,if_neg e] at h';cases h'.1
  rw[h1.inv_int,e1,e2,Hf h'.2 h2];rfl
theorem YL:∀{ks:List SgK} {cs:List (TV R.T)} {vs:List V},zerosG ks cs=true->RlL R ρ top cs vs->vs=sgV (ks.map zeroG):=by
 intro ks
 induction ks with
 |nil=>
  intro cs vs h hr
  cases cs with
  |nil=>exact hr.inv_nil
  |cons c cs=>cases h
 |cons k ks ih=>
  intro cs vs h hr
  cases k with
  |i k=>
   cases cs with
   |nil=>cases h
   |cons c cs=>
    obtain⟨v,ws,rfl,h1,h2⟩:=hr.inv_cons
    have h':(allZ k [c]&& zerosG ks cs)=true:=h
    rw[RS] at h'
    have:=Hf h'.1 (RlL.cons' h1 RlL.nil')
    cases this
    rw[ih h'.2 h2];rfl
  |a k n=>
   have h':(Nat.ble n cs.length&& allZ k (cs.take n)&& zerosG ks (cs.drop n))=true:=by cases cs<;>exact h
   rw[RS,RS] at h'
   have h1:=ae2 h'.1.1
   have h2:=Hf h'.1.2 (hr.take n)
   have h3:=ih h'.2 (hr.drop n)
   rw[<-afF n vs,h2,h3,aev,afC h1]
   show _=(List.replicate n (0:Int)).map (V.int k)++sgV (ks.map zeroG)
   rw[List.map_replicate]
theorem YM {pre mid post mid':List Sg} {off sz:Nat} (h1:sgW pre=off) (h2:sgW mid=sz) (h3:sgW mid'=sz):spliceL (sgV (pre++(mid++post))) off (sgV mid')=sgV (pre++(mid'++post)):=by
 unfold spliceL
 rw[iM,iM,iM,iM,bQ,h3]
 rw[afM (by rw[bQ,h1];exact iP _),afm (by rw[bQ,h1];exact iP _)]
 rw[<-aeC (sgV pre) (sgV mid),afQ (by rw[aaG,bQ,bQ,h1,h2];exact iP _),afO (by rw[aaG,bQ,bQ,h1,h2];exact iP _)]
 rw[List.nil_append,aeC]
theorem NP {pre post:List Sg} {off n a:Nat} {k:IntKind} {v w:Vec n} {l:List Int} (h1:sgW pre=off) (h2:a+l.length<=n) (h3:w.l=v.l.take a++l++v.l.drop (a+l.length)):spliceL (sgV (pre++(.a k n v::post))) (off+a) (l.map (V.int k))=sgV (pre++(.a k n w::post)):=by
 unfold spliceL
 rw[iM,iM,BI,BI]
 show ((sgV pre++(v.l.map (V.int k)++sgV post)).take (off+a)++l.map (V.int k)++(sgV pre++(v.l.map (V.int k)++sgV post)).drop (off+a+(l.map (V.int k)).length))=sgV pre++(w.l.map (V.int k)++sgV post)
 have hp:(sgV pre).length=off:=by rw[bQ,h1]
 have hv:(v.l.map (V.int k)).length=n:=by rw[ab3,v.h]
 rw[ab3]
 rw[List.take_append,afm (by omega),hp,afs,afM (by omega)]
 rw[afL,afO (by omega),hp,List.nil_append,show off+a+l.length-off=a+l.length by omega,afQ (by omega)]
 rw[h3,afj,afj,List.map_take,List.map_drop]
 simp only[aeC]
theorem YN {l:List Int} {a:Nat} {y:Int} (h:a<l.length):l.set a y=l.take a++[y]++l.drop (a+1):=by
 rw[List.set_eq_take_append_cons_drop,if_pos h];simp
theorem Hg {g:Nat} {t:TypeId} {k:IntKind} {n:Nat} {v:Vec n} (h:glG E R g t=some ⟨k,n,v⟩):∃cs e,E.glob g=some cs/\cs=v.l.map (V.int k)/\arrT E.P t=some (n,e)/\szT E.P t=some n/\isAggT E.P t=some true/\elG E e=true:=by
 unfold glG at h
 split at h
 ·rename_i cs k' n' v' m e sz ag h1 h2 h3 h4 h5
  obtain⟨hc,h⟩:=aM h
  cases h
  simp only[RS] at hc
  obtain⟨⟨⟨⟨c1,c2⟩,c3⟩,c4⟩,c5⟩:=hc
  subst c1
  rw[aP c2] at h3;rw[aP c3] at h4
  refine⟨cs,e,h1,?_,h3,h4,h5,c4⟩
  have key:∀(cs:List V) (l:List Int),eqVs k cs l=true->cs=l.map (V.int k):=by
   intro cs
   induction cs with
   |nil=>intro l h;cases l with
    |nil=>rfl
    |cons y l=>cases h
   |cons c cs ih=>
    intro l h
    cases l with
    |nil=>cases c<;>cases h
    |cons y l=>
     cases c<;>first| (exact absurd (show false=true from h) (by simp))|skip
     rename_i k' x
     have h':((if k'=k then (if x=y then true else false) else false)&& eqVs k cs l)=true:=h
     rw[RS] at h'
     have e1:k'=k:=by by_cases e:k'=k;exact e;rw[if_neg e] at h';cases h'.1
     have e2:x=y:=by by_cases e:x=y;exact e;rw[if_pos e1,if_neg e] at h';cases h'.1
     rw[e1,e2,ih l h'.2];rfl
  exact key cs v.l c5
 ·cases h
theorem BL {i:Int} {n:Nat} (h:inN i n=true):0<=i/\i<n/\i.toNat<n:=by
 have:=of_decide_eq_true h
 omega
theorem Hl {k:IntKind} {i:Int} {n:Nat} (h:inN i n=true):idx (.int k i) n=some i.toNat:=by
 obtain⟨h1,h2,_⟩:=BL h
 simp[idx,dP,h1,h2]
theorem BM {k:IntKind} {i:Int} {n:Nat} (h1:0<=i) (h2:i<=n):bnd (.int k i) n=some i.toNat:=by
 simp[bnd,dP,h1,h2]
theorem NR {n:Nat} {lo hi:Option Int} {vl vh:Option V} (hl:(lo=none/\vl=none)\/∃n k,lo=some n/\vl=some (.int k n)) (hh:(hi=none/\vh=none)\/∃n k,hi=some n/\vh=some (.int k n)) (hb:svB n lo hi=true):
 bS n n vl vh none=some ((loI lo).toNat,(hiI n hi).toNat,n):=by
 rcases hl with ⟨rfl,rfl⟩| ⟨a,k,rfl,rfl⟩<;>rcases hh with ⟨rfl,rfl⟩| ⟨c,k',rfl,rfl⟩<;>simp only[svB,decide_eq_true_eq] at hb
 ·simp[bS,loI,hiI]
 ·simp[bS,loI,hiI,BM hb.1 hb.2]
 ·simp[bS,loI,hiI,BM (i:=a) (n:=n) hb.1 (by omega)]
 ·simp[bS,loI,hiI,BM (i:=c) (n:=n) (by omega) hb.2.2.1,BM (i:=a) (n:=c.toNat) hb.1 (by omega)]
theorem YO {P:Program} {t e:TypeId} {y:V} {ys cs:List V} {loc:Aq.Loc} {s off len cap:Nat} {ag:Bool} (he:elemT P t=some e) (z1:szT P e=some 1) (z2:isAggT P e=some false) (q2:kQ y=false) (q1:dY σ false 1 undefV y=some ys) (hone:ys.all (fun v=>oneCells v.cells)=true)
 (h4:σ.cellsAt loc s=some cs) (hb:off+min ys.length len<=cs.length):copyV P σ t (.vw loc s off len cap 1 ag) y=some (.int .i64 (min ys.length len:Nat),σ.setObj loc s (.cells (spliceL cs off ((ys.take (min ys.length len)).flatMap V.cells)))):=by
 unfold copyV
 rw[he];simp only[Option.bind_some,z1,z2]
 rw[if_pos ⟨q2,rfl⟩,q1];simp only[Option.bind_some]
 rw[if_pos hone,h4];simp only[Option.bind_some]
 rw[if_pos ⟨trivial,by rw[Nat.mul_one];exact hb⟩]
theorem BN {t:TypeId} {x:TV R.T} {lo hi:Option (TV R.T)} {v:V} {vl vh:Option V} {r:Res R} (h:slicG E R t x lo hi st=some r) (hx:Rl R ρ σ.top x v) (him:ak ρ b st fr σ)
 (hl:∀y,lo=some y->∃w,vl=some w/\Rl R ρ σ.top y w) (hln:lo=none->vl=none) (hh:∀y,hi=some y->∃w,vh=some w/\Rl R ρ σ.top y w) (hhn:hi=none->vh=none):fI ρ σ.top (dQ E.P σ t v vl vh none) r:=by
 unfold slicG at h
 split at h
 ·rename_i p off lo' hi' n e e1 e2 ha
  have b1:=oh e1 hl hln
  have b2:=oh e2 hh hhn
  obtain⟨hel,h⟩:=aM h
  obtain⟨z1,z2⟩:=oz hel
  obtain⟨s,h1,rfl⟩:=hx.fU
  have fin:∀(k:IntKind) (cs:List V),σ.cellsAt (ρ.om.lc p) s=some cs->off+n<=cs.length->svB n lo' hi'=true->∃y,dQ E.P σ t (.ref (ρ.om.lc p) s off) vl vh none=some y/\Rl R ρ σ.top (.sv p off k n lo' hi') y:=by
   intro k cs hc hlen hB
   obtain⟨p1,p2,p3,_,_⟩:=qw hB
   refine⟨_,?_,by unfold Rl;exact⟨s,h1,hB,rfl⟩⟩
   unfold dQ
   rw[xS ha];dsimp only
   rw[z1,z2,NR b1 b2 hB,hc]
   simp only[Option.bind_some,Nat.mul_one]
   rw[if_pos hlen,if_neg (by omega)]
  split at h
  ·rename_i ss hl'
   obtain⟨s',h3,h4⟩:=him.rd hl'
   rw[h1] at h3;cases h3
   split at h
   ·rename_i pre k n' v' post hsp
    obtain⟨hb,h⟩:=aM h
    have:=aP hb;subst this
    cases h
    obtain⟨e3,hw⟩:=kF hsp
    intro hc
    exact fin k _ h4 (by rw[bQ,e3,oC,hw,BJ];show off+n'<=off+(n'+_);omega) hc
   ·cases h
  ·rename_i cs hl'
   obtain⟨s',vs,h3,h4,h5⟩:=him.rd hl'
   rw[h1] at h3;cases h3
   split at h
   ·rename_i k _ _ _
    obtain⟨hb,h⟩:=aM h
    cases h
    intro hc
    exact fin k _ h4 (by rw[h5.length];exact ae2 hb) hc
   ·cases h
  ·cases h
 ·rename_i cs off n e e1 e2 ha
  have b1:=oh e1 hl hln
  have b2:=oh e2 hh hhn
  obtain⟨hb,h⟩:=aM h
  rw[RS] at hb
  obtain⟨z1,z2⟩:=oz hb.1
  have hle:=ae2 hb.2
  split at h
  ·rename_i k _ _ _
   split at h
   ·rename_i l hu
    cases h
    obtain⟨vs,rfl,hr⟩:=hx.iI
    have hv:=BG hu hr
    have hlen:=hr.length
    have hsb:svB n none none=true:=rfl
    refine⟨.lst .sh (((l.drop off).take n).map (V.int k)),?_,by unfold Rl;exact⟨.sh,rfl,trivial⟩⟩
    unfold dQ
    rw[xS ha];dsimp only
    rw[z1,z2,NR b1 b2 hsb]
    simp only[Option.bind_some,Nat.mul_one]
    have hn:off+n<=vs.length:=by rw[hlen];exact hle
    have e0:(loI none).toNat=0:=rfl
    have Ho:(hiI n none).toNat=n:=by simp[hiI]
    rw[if_pos ⟨hn,fun _=>⟨trivial,by rw[hv];unfold oneCells;rw[List.all_map];exact aeP.2 fun _ _=>rfl⟩⟩,e0,Ho]
    have hl2:(List.take n (List.drop off l)).length=n:=by rw[hv,ab3] at hn;rw[aev,aex];omega
    have:=GZ k ((l.drop off).take n) ((l.drop off).drop n|>.map (V.int k))
    rw[<-afj,afF,hl2] at this
    rw[hv,Nat.sub_zero,Nat.add_zero,<-List.map_drop,this]
   ·cases h
  ·cases h
 ·cases h
end
end Aq
end
section
namespace Aq
open Go
section
variable {R:Reg} {E:Env}
variable {ρ:au} {top:Nat->Nat} {b aj:Nat} {st:MS R.T} {fr:Fr} {σ:Sig} {o:Oper}
theorem YP {x:TV R.T} (h:notG x=true):notG (erM x)=true:=by cases x<;>first|exact h|rfl
theorem NS {top:Nat->Nat} {x:TV R.T} {v:V} (hs:stV (er1M x)=true) (h:Rl R ρ top x v):Rl R ρ top (er1M x) (aU v):=by
 cases x with
 |lst c t l=>obtain⟨c',rfl,hc⟩:=h.dB;unfold er1M Rl;exact⟨.sh,rfl,rfl⟩
 |int k n=>rw[h.inv_int] at*;exact h
 |bool b=>rw[h.gK] at*;exact h
 |blit b=>rw[h.ji] at*;exact h
 |str s=>rw[h.eH] at*;exact h
 |agg cs=>obtain⟨l,rfl,hl⟩:=h.dL;exact h
 |tup cs=>obtain⟨l,rfl,hl⟩:=h.sW;exact h
 |mapc k e m=>rw[h.nV] at*;exact h
 |fn f a b=>obtain⟨a',b',rfl,ha,hb⟩:=h.eB;exact h
 |cref cs off=>obtain⟨l,rfl,hl⟩:=h.iI;exact h
 |sg ss=>rw[h.sZ] at*;exact h
 |nilp=>unfold Rl at h;subst h;unfold er1M Rl;rfl
 |nilf=>unfold Rl at h;subst h;unfold er1M Rl;rfl
 |nilm=>unfold Rl at h;subst h;unfold er1M Rl;rfl
 |nili=>unfold Rl at h;subst h;unfold er1M Rl;rfl
 |_=>simp[er1M,stV] at hs
theorem NT {top:Nat->Nat}:∀{l:List (TV R.T)} {vs:List V},stL (er1Ms l)=true->RlL R ρ top l vs->RlL R ρ top (er1Ms l) (vs.map aU)
 | [],vs,_,h=>by rw[h.inv_nil];rfl
 |x::l,vs,hs,h=>by
  obtain⟨v,ws,rfl,h1,h2⟩:=h.inv_cons
  unfold er1Ms stL at hs
  rw[RS] at hs
  exact .cons' (NS hs.1 h1) (NT hs.2 h2)
theorem YQ {top:Nat->Nat} {x:TV R.T} {v:V} (hs:stV (er1M x)=true) (hg:notG x=true) (hn:∀cs,x≠ .agg cs) (h:Rl R ρ top x v):er v=aU v:=by
 cases x with
 |lst c t l=>obtain⟨c',rfl,hc⟩:=h.dB;rfl
 |int k n=>rw[h.inv_int];rfl
 |bool b=>rw[h.gK];rfl
 |blit b=>rw[h.ji];rfl
 |str s=>rw[h.eH];rfl
 |agg cs=>exact absurd rfl (hn cs)
 |tup cs=>obtain⟨l,rfl,hl⟩:=h.sW;rfl
 |mapc k e m=>rw[h.nV];rfl
 |fn f a b=>obtain⟨a',b',rfl,ha,hb⟩:=h.eB;rfl
 |cref cs off=>obtain⟨l,rfl,hl⟩:=h.iI;rfl
 |sg ss=>cases hg
 |nilp=>unfold Rl at h;subst h;rfl
 |nilf=>unfold Rl at h;subst h;rfl
 |nilm=>unfold Rl at h;subst h;rfl
 |nili=>unfold Rl at h;subst h;rfl
 |_=>simp[er1M,stV] at hs
theorem YR {top:Nat->Nat} {x:TV R.T} {v:V} (hs:(stV (erM x)&& notG x)=true) (h:Rl R ρ top x v):Rl R ρ top (erM x) (er v):=by
 rw[RS] at hs
 have key:(∀cs,x≠ .agg cs)->erM x=er1M x:=fun hne=>by cases x<;>first|rfl|exact absurd rfl (hne _)
 cases x with
 |agg cs=>
  obtain⟨l,rfl,hl⟩:=h.dL
  unfold erM Rl
  exact⟨_,rfl,NT (by have:=hs.1;unfold erM stV at this;exact this) hl⟩
 |sg ss=>cases hs.2
 |_=>
  rw[key (fun _ e=>by cases e)] at hs⊢
  have h1:=NS hs.1 h
  rw[YQ hs.1 hs.2 (fun _ e=>by cases e) h];exact h1
theorem gL.val {v:Option V} {r:Res R} (hv:fI ρ σ.top v r) (ho:∀y,v=some y->opV E fr σ aj o=some (y,σ)):gL E st ρ aj fr σ o r:=by
 cases r with
 |t x=>obtain⟨y,e,hr⟩:=hv;exact⟨y,.bP (ho y e),hr⟩
 |c c x=>intro hc;obtain⟨y,e,hr⟩:=hv hc;exact⟨y,.bP (ho y e),hr⟩
 |p α d o' f=>intro a ha;obtain⟨y,e,hr⟩:=hv a ha;exact⟨y,.bP (ho y e),hr⟩
 |w x s=>exact hv.elim
 |wc c x s=>exact hv.elim
theorem gL.tt {x:TV R.T} {y:V} (ho:opV E fr σ aj o=some (y,σ)) (hr:Rl R ρ σ.top x y):gL E st ρ aj fr σ o (.t x):=⟨y,.bP ho,hr⟩
theorem xW {x:Operand}:bV E fr (some x)=some (fr.ev E x):=rfl
theorem NU {top:Nat->Nat} {x y v:TV R.T} {w:V} (h:muxM true x y=some v) (hx:Rl R ρ top x w):Rl R ρ top v w:=by
 unfold muxM at h
 split at h<;>try cases h
 ·split at h
  ·cases h;exact hx
  ·cases h
 all_goals first|exact hx| (unfold Rl at hx⊢;exact hx)
theorem NV {top:Nat->Nat} {x y v:TV R.T} {w:V} (h:muxM false x y=some v) (hx:Rl R ρ top y w):Rl R ρ top v w:=by
 unfold muxM at h
 split at h<;>try cases h
 ·split at h
  ·rename_i e;subst e;cases h;exact hx
  ·cases h
 all_goals first|exact hx| (unfold Rl at hx⊢;exact hx)
theorem uf {c a' b':Operand} {t:Bool} (hop:o.op= .pick c a' b') (hc:fr.ev E c= .bool t):opV E fr σ aj o=some (if t then fr.ev E a' else fr.ev E b',σ):=by
 simp only[opV,hop,hc,jX,Option.map_some]
variable (hR:RegOK R)
include hR
theorem YS {t:TypeId} {m x:TV R.T} {v w:V} {ok:Bool} {r:Res R} (h:lookupM E R t m x ok st=some r) (hm:Rl R ρ σ.top m v) (hx:Rl R ρ σ.top x w) (hi:ak ρ b st fr σ):fI ρ σ.top (kP E.P σ t v w ok) r:=by
 unfold lookupM at h
 split at h
 ·rename_i o
  split at h
  ·rename_i k e m hl
   obtain⟨s,h1,rfl⟩:=hm.mK
   obtain⟨s',h2,h3⟩:=hi.rd hl
   rw[h1] at h2;cases h2
   exact Gy hR h hx h3
  ·cases h
 ·rename_i k e m
  exact Gy hR h hx (by rw[hm.nV];rfl)
 ·split at h
  ·split at h
   ·unfold Rl at hm;subst hm
    exact Gy hR h hx rfl
   ·cases h
  ·cases h
 ·cases h
omit hR in
theorem NW {top:Nat->Nat} {x y:TV R.T} {v w:V} {r:Bool} (h:eqKM x y=some r) (hx:Rl R ρ top x v) (hy:Rl R ρ top y w):fB v w=some r:=by
 unfold eqKM at h
 split at h
 ·rw[hx.inv_int,hy.inv_int];exact h
 ·cases h;rw[hx.eH,hy.eH];rfl
 ·cases h
omit hR in
theorem NY {top:Nat->Nat} {t:TypeId} {x:TV R.T} {v:V} (h:keyS E t x=true) (hx:Rl R ρ top x v):eG E.P t v=true:=by
 unfold keyS at h
 split at h
 ·rename_i hu;rw[hx.inv_int];unfold eG;rw[hu]
 ·rename_i hu;rw[hx.eH];unfold eG;rw[hu]
 ·cases h
omit hR in
theorem NZ {top:Nat->Nat} {x y:TV R.T} {v w:V} (hx:Rl R ρ top x v) (hy:Rl R ρ top y w):∀{ks vs:List (TV R.T)} {ks' vs':List (TV R.T)} {k l:List V},setS x y ks vs=some (ks',vs')->RlL R ρ top ks k->RlL R ρ top vs l->
 ∃k' l',kN v w k l=some (k',l')/\RlL R ρ top ks' k'/\RlL R ρ top vs' l'
 | [],[],_,_,k,l,h,h1,h2=>by
   cases h
   rw[h1.inv_nil,h2.inv_nil]
   exact⟨_,_,rfl,.cons' hx rfl,.cons' hy rfl⟩
 | [],_::_,_,_,_,_,h,_,_=>by cases h
 |_::_,[],_,_,_,_,h,_,_=>by cases h
 |a::ks,b::vs,ks',vs',k,l,h,h1,h2=>by
  obtain⟨k0,k,rfl,g1,g2⟩:=h1.inv_cons
  obtain⟨l0,l,rfl,g3,g4⟩:=h2.inv_cons
  unfold setS at h
  split at h
  ·rename_i c hc
   have he:=NW hc hx g1
   cases c with
   |true=>cases h;exact⟨v::k,w::l,by simp[kN,he],.cons' hx g2,.cons' hy g4⟩
   |false=>
    rw[cond_false] at h
    split at h
    ·rename_i ks1 vs1 hs
     cases h
     obtain⟨k',l',e1,e2,e3⟩:=NZ hx hy hs g2 g4
     exact⟨k0::k',l0::l',by simp[kN,he,e1],.cons' g1 e2,.cons' g3 e3⟩
    ·cases h
  ·cases h
theorem N7 {t:TypeId} {m x y:TV R.T} {v w u:V} {r:Res R} (h:updateM E R t m x y st=some r) (hm:Rl R ρ σ.top m v) (hx:Rl R ρ σ.top x w) (hy:Rl R ρ σ.top y u) (hi:ak ρ aj st fr σ)
 (ho:∀σ',iV E.P σ t v w u=some σ'->opV E fr σ aj o=some (undefV,σ')):gL E st ρ aj fr σ o r:=by
 unfold updateM at h
 split at h
 ·rename_i p
  split at h
  ·rename_i k e m hl
   split at h
   ·rename_i kt et ht
    obtain⟨hk,h⟩:=aM h
    split at h
    ·rename_i a c ha hc
     cases h
     obtain⟨s,h1,rfl⟩:=hm.mK
     obtain⟨s',h2,h3⟩:=hi.ob _ _ hl
     rw[h1] at h2;cases h2
     have hw:=Nb hR hk ha hx
     subst hw
     unfold unE at hc
     obtain⟨hs,hc⟩:=aM hc
     have hu:u=encD R e c:=by
      have h4:=Gj hR hc hy
      have h5:=xO hR y u hs hy
      have h6:=h4.2.2.1 0 σ
      rw[closeV_clean h5] at h6
      exact aeF h6
     subst hu
     have hup:iV E.P σ t (.mapr (ρ.om.lc p) s) (encD R k a) (encD R e c)=some (σ.setObj (ρ.om.lc p) s (.map ((mset (beqD R k) a c m).map fun q=>encD R k q.1) ((mset (beqD R k) a c m).map fun q=>encD R e q.2))):=by
      unfold iV
      rw[ht];simp only[Option.bind_some]
      rw[if_pos (Bw hR hk a a).2,h3]
      simp only[Option.bind_some]
      rw[Na hR hk a c m];rfl
     refine⟨undefV,_,ρ,.bP (ho _ hup),(hi.le (aeB _)).set p s ⟨s,h1,map_eq _ _ _ _ _⟩,rfl,by unfold Rl;rfl,fun q _=>ay.set hl rfl⟩
    ·cases h
   ·cases h
  ·rename_i ks vs hl
   split at h
   ·rename_i kt et ht
    obtain⟨hk,h⟩:=aM h
    split at h
    ·rename_i ks' vs' hs
     cases h
     obtain⟨s,h1,rfl⟩:=hm.mK
     obtain⟨s',k0,l0,h2,h3,h4,h5⟩:=hi.ob _ _ hl
     rw[h1] at h2;cases h2
     obtain⟨k1,l1,g1,g2,g3⟩:=NZ hx hy hs h4 h5
     have hup:iV E.P σ t (.mapr (ρ.om.lc p) s) w u=some (σ.setObj (ρ.om.lc p) s (.map k1 l1)):=by
      unfold iV
      rw[ht];simp only[Option.bind_some]
      rw[if_pos (NY hk hx),h3]
      simp only[Option.bind_some]
      rw[g1];rfl
     refine⟨undefV,_,ρ,.bP (ho _ hup),(hi.le (aeB _)).set p s ⟨s,k1,l1,h1,map_eq _ _ _ _ _,g2,g3⟩,rfl,by unfold Rl;rfl,fun q _=>ay.set hl rfl⟩
    ·cases h
   ·cases h
  ·cases h
 ·cases h
omit hR in
theorem ak.at (h:ak ρ b st fr σ) {d:Nat} (hd:d<F0):(fr.d,d)=ρ.om.lc d:=by rw[h.d,Cx.xB _ hd]
omit hR in
theorem ak.N8 (h:ak ρ b st fr σ) {x:Option Nat} (hd:∀d,x=some d->d<F0):(x.map fun t=>(fr.d,t))=x.map fun t=>ρ.om.lc t:=by
 cases x with
 |none=>rfl
 |some d=>exact congrArg some (h.at (hd d rfl))
theorem N9 {d s:Nat} {cs:List (TV R.T)} {l:List V} (hi:ak ρ b st fr σ) (hc:RlL R ρ σ.top cs l) (hm:mentL d cs=false):ak (ρ.dI d s) b (st.new d (.cells cs)) fr (σ.setObj (ρ.om.lc d) s (.cells l)):=
 hi.new d s ⟨s,l,fH,cells_eq _ _ _ _,RlL.kill d tJ rfl rfl cs l hm hc⟩
theorem Oa {d s:Nat} {ss:List Sg} (hi:ak ρ b st fr σ):ak (ρ.dI d s) b (st.new d (.sg ss)) fr (σ.setObj (ρ.om.lc d) s (.cells (sgV ss))):=
 hi.new d s ⟨s,fH,cells_eq _ _ _ _⟩
theorem Hq {g:Nat} {cs:List V} (h:E.glob g=some cs):fr.ev E (.global g)= .cref cs 0:=by
 show (match E.glob g with|some cs=>V.cref cs 0|none=>V.raw (Value.pointer (some ⟨g,0,none⟩)))=_
 rw[h]
omit hR in
theorem Oc {top:Nat->Nat} {k:IntKind} (l:List Int):∀L:List Nat,RlL R ρ top (L.map fun j=>(TV.int k (l.getD j 0):TV R.T)) (L.map fun j=>V.int k (l.getD j 0))
 | []=>RlL.nil'
 |j::L=>RlL.cons' (by unfold Rl;rfl) (Oc l L)
omit hR in
theorem YT {k:IntKind} {l:List Int} {m:Nat} (h:m<=l.length):((List.range m).map fun j=>V.int k (l.getD j 0))=(l.map (V.int k)).take m:=by
 apply List.ext_getElem
 ·rw[ab3,afN,aev,ab3];omega
 ·intro i h1 h2
  rw[ab3,afN] at h1
  rw[afz,afA,List.getElem_take,afz,ae5,afb (show i<l.length by omega)]
  rfl
theorem YU {g:List (Nat×Bool)} (aZ:∀d,o.dst=some d->d<F0) (hg:gZ fr g) (hi:ak ρ aj st fr σ) {r:Res R} (h:opX E R g o.dst o.op st=some r):gL E st ρ aj fr σ o r:=by
 unfold opX at h
 split at h
 ·
  rename_i t hop
  split at h
  ·rename_i d ks cs hd hks hz
   obtain⟨hc,h⟩:=aM h
   cases h
   obtain⟨v,hv,hr⟩:=qp (ρ:=ρ) (top:=σ.top) hz
   obtain⟨l,rfl,hl⟩:=hr.dL
   have hl2:=YL hc hl
   refine⟨.ref (ρ.om.lc d) aj 0,_,ρ.dI d aj,.bP (o:=o) ?_,Oa hR (ss:=ks.map zeroG) (hi.le (aeB _)),rfl,by unfold Rl;exact⟨aj,fH,rfl⟩,fun q hq=>ay.new (fun e=>hq.1 (by rw[hd,e]))⟩
   simp only[opV,hop,hd,Option.map_some,Option.bind_some,hv,V.cells,hl2,xV,if_true,hi.at (aZ _ hd)]
  ·cases h
 ·
  rename_i t x hop
  cases hz:frzB E t o.dst
  case true=>rw[hz] at h;cases h
  rw[hz,cond_false] at h
  split at h
  ·rename_i d ks v hd hks hv
   split at h
   ·rename_i ss hss
    cases h
    obtain⟨c1,c2,c3⟩:=NM hss (aF (E:=E) hi hg hv)
    refine⟨.ref (ρ.om.lc d) aj 0,_,ρ.dI d aj,.bP (o:=o) ?_,Oa hR (ss:=ss) (hi.le (aeB _)),rfl,by unfold Rl;exact⟨aj,fH,rfl⟩,fun q hq=>ay.new (fun e=>hq.1 (by rw[hd,e]))⟩
    simp only[opV,hop,(show frzB E t (some d)=false from hd▸hz),aaB,if_false,hd,Option.map_some,Option.bind_some,c1,c3,xV,and_self,if_true,hi.at (aZ _ hd)]
   ·cases h
  ·cases h
 ·
  rename_i t a hop
  split at h
  ·rename_i gl
   split at h
   ·rename_i k n v hv
    cases h
    obtain⟨cs,e,g1,g2,g3,g4,g5,g6⟩:=Hg hv
    refine .tt (y:=.agg (v.l.map (V.int k))) ?_ ?_
    ·simp only[opV,hop,Hq hR g1]
     unfold ldT;rw[g4,g5];simp only[Option.bind_some]
     unfold gu
     rw[if_pos rfl,if_pos (by rw[g2,ab3,v.h];omega),afq,afm (by rw[g2,ab3,v.h];exact iP _),g2];rfl
    ·unfold Rl;show _=V.agg (v.l.map (V.int k)++[]);rw[aeX]
   ·cases h
  ·split at h
   ·rename_i p off hv
    split at h
    ·rename_i ss hl
     split at h
     ·rename_i v hld
      cases h
      obtain⟨s,h1,h2⟩:=(aF (E:=E) hi hg hv).fU
      obtain⟨s',h3,h4⟩:=hi.rd hl
      rw[h1] at h3;cases h3
      obtain⟨y,hy,hr⟩:=NH (ρ:=ρ) (top:=σ.top) hld
      exact .tt (by simp only[opV,hop,h2,h4,Option.bind_some,hy,Option.map_some]) hr
     ·cases h
    ·cases h
   ·rename_i p off k n i m hv
    split at h
    ·rename_i ss hl
     obtain⟨s,h1,hi0,hi1,h2⟩:=(aF (E:=E) hi hg hv).xD
     obtain⟨s',h3,h4⟩:=hi.rd hl
     rw[h1] at h3;cases h3
     split at h
     ·rename_i pre k' n' v post hsp
      by_cases ek:k'=k
      ·subst ek
       rw[if_pos rfl] at h
       cases hb:Nat.beq n' n
       ·rw[hb] at h;cases h
       rw[hb,cond_true] at h
       have:=aP hb;subst this
       cases hc:(Nat.beq m 1&& elG E t)
       ·rw[hc,cond_false] at h
        split at h
        ·rename_i y hy
         cases h
         obtain⟨x,g1,g2⟩:=YJ (ρ:=ρ) (top:=σ.top) hsp hi1 hy
         exact .tt (by simp only[opV,hop,h2,h4,Option.bind_some,g1,Option.map_some]) g2
        ·cases h
       ·rw[hc,cond_true] at h
        cases h
        rw[RS] at hc
        have:=aP hc.1;subst this
        exact .tt (y:=.int k' (v.at' i)) (by simp only[opV,hop,h2,h4,Option.bind_some,NJ (i:=i) hsp (aeD (afw _) hi1) hc.2,Option.map_some]) (by unfold Rl;rfl)
      ·rw[if_neg ek] at h;cases h
     ·cases h
    ·cases h
   ·rename_i k n v i hv
    obtain⟨he,h⟩:=aM h
    cases h
    obtain⟨h1,h2,h3⟩:=(aF (E:=E) hi hg hv).Bl
    obtain⟨z1,z2⟩:=oz he
    refine .tt (y:=.int k (v.at' i)) ?_ (by unfold Rl;rfl)
    simp only[opV,hop,h3]
    unfold ldT;rw[z1,z2];simp only[Option.bind_some]
    unfold gu;simp only[aaB,if_false]
    rw[List.getElem?_map,NI v (by omega)];rfl
   ·cases h
 ·
  rename_i t a x hop
  split at h
  ·rename_i p off v hv hx
   split at h
   ·rename_i ss sz hl hsz
    split at h
    ·rename_i pre rest hsp
     split at h
     ·rename_i mid post hsp2
      split at h
      ·rename_i mid' hco
       cases h
       obtain⟨s,h1,h2⟩:=(aF (E:=E) hi hg hv).fU
       obtain⟨s',h3,h4⟩:=hi.ob _ _ hl
       rw[h1] at h3;cases h3
       obtain⟨c1,c2,c3⟩:=NM hco (aF (E:=E) hi hg hx)
       obtain⟨e1,w1⟩:=kF hsp
       obtain⟨e2,w2⟩:=kF hsp2
       rw[BK,w2] at c2
       refine⟨undefV,_,ρ,.bP (o:=o) ?_,(hi.le (aeB _)).set p s (x:=.sg (pre++(mid'++post))) (a:=.cells (sgV (pre++(mid'++post)))) ⟨s,h1,cells_eq _ _ _ _⟩,rfl,by unfold Rl;rfl,fun q _=>ay.set hl rfl⟩
       simp only[opV,hop,h2,h4,Option.bind_some,c1]
       rw[if_pos ⟨by rw[hsz,bQ,c2],by rw[bQ,bQ,e1,e2,oC,oC,w1,w2,c2];omega,xV _⟩,e1,e2,YM w1 w2 c2]
      ·cases h
     ·cases h
    ·cases h
   ·cases h
  ·rename_i p off k n i m k' y hv hx
   split at h
   ·rename_i ss hl
    split at h
    ·rename_i pre k2 n' v post hsp
     by_cases ek:k2=k
     ·subst ek
      rw[if_pos rfl] at h
      by_cases Od:k'=k2
      ·subst Od
       rw[if_pos rfl] at h
       obtain⟨hb,h⟩:=aM h
       cases h
       rw[RS,RS] at hb
       have e1:=aP hb.1.1;subst e1
       have e2:=aP hb.1.2;subst e2
       obtain⟨z1,z2⟩:=oz hb.2
       obtain⟨s,h1,hi0,hi1,h2⟩:=(aF (E:=E) hi hg hv).xD
       obtain⟨s',h3,h4⟩:=hi.ob _ _ hl
       rw[h1] at h3;cases h3
       have hy:=(aF (E:=E) hi hg hx).inv_int
       obtain⟨e1,w1⟩:=kF hsp
       refine⟨undefV,_,ρ,.bP (o:=o) ?_,(hi.le (aeB _)).set p s (x:=.sg (pre++(.a k' n' (v.set i y)::post))) (a:=.cells (sgV (pre++(.a k' n' (v.set i y)::post)))) ⟨s,h1,cells_eq _ _ _ _⟩,rfl,by unfold Rl;rfl,fun q _=>ay.set hl rfl⟩
       simp only[opV,hop,h2,h4,Option.bind_some,hy,V.cells]
       have YV:=NP (post:=post) (k:=k') (v:=v) (w:=v.set i y) (l:=[y]) w1 (show i.toNat+[y].length<=n' from hi1) (YN (by rw[v.h];omega))
       rw[if_pos ⟨by rw[z1];rfl,by rw[bQ,e1,oC,w1,BJ];show off+i.toNat+1<=off+(n'+_);omega,rfl⟩,e1]
       rw[show [V.int k' y]=[y].map (V.int k') from rfl,YV]
      ·rw[if_neg Od] at h;cases h
     ·rw[if_neg ek] at h;cases h
    ·cases h
   ·cases h
  ·cases h
 ·
  rename_i t x i hop
  split at h
  ·rename_i n e k0 i ha hiv
   obtain⟨hel,h⟩:=aM h
   obtain⟨z1,z2⟩:=oz hel
   have hii:=(aF (E:=E) hi hg hiv).inv_int
   split at h
   ·rename_i gl
    split at h
    ·rename_i k n' v hv
     cases h
     intro hin
     obtain⟨cs,e',g1,g2,g3,g4,g5,g6⟩:=Hg hv
     rw[ha] at g3;cases g3
     obtain⟨j1,j2,j3⟩:=BL hin
     refine⟨.cref cs i.toNat,.bP ?_,by unfold Rl;exact⟨j1,j2,by rw[g2]⟩⟩
     simp only[opV,hop,Hq hR g1,hii]
     unfold indexAddrV
     rw[xS ha];dsimp only
     rw[z1];simp only[Option.bind_some,Hl hin,Option.map_some,Nat.mul_one,ae7]
    ·cases h
   ·split at h
    ·rename_i p off hv
     split at h
     ·rename_i ss hl
      split at h
      ·rename_i pre k n' v post hsp
       obtain⟨hb,h⟩:=aM h
       have:=aP hb;subst this
       cases h
       intro hin
       obtain⟨s,h1,h2⟩:=(aF (E:=E) hi hg hv).fU
       obtain⟨j1,j2,j3⟩:=BL hin
       refine⟨.ref (ρ.om.lc p) s (off+i.toNat),.bP ?_,by unfold Rl;exact⟨s,h1,j1,by omega,rfl⟩⟩
       simp only[opV,hop,h2,hii]
       unfold indexAddrV
       rw[xS ha];dsimp only
       rw[z1];simp only[Option.bind_some,Hl hin,Option.map_some,Nat.mul_one]
      ·cases h
     ·cases h
    ·cases h
  ·cases h
 ·
  rename_i t x i hop
  split at h
  ·rename_i n e k n' v k0 i ha hv hiv
   obtain⟨hb,h⟩:=aM h
   cases h
   rw[RS] at hb
   have:=aP hb.2;subst this
   obtain⟨z1,z2⟩:=oz hb.1
   have hii:=(aF (E:=E) hi hg hiv).inv_int
   have hvv:=(aF (E:=E) hi hg hv).sZ
   intro hin
   obtain⟨j1,j2,j3⟩:=BL hin
   refine⟨.int k (v.at' i),.bP ?_,by unfold Rl;rfl⟩
   simp only[opV,hop,hvv,hii]
   unfold pG
   rw[xS ha];dsimp only
   rw[Hl hin];simp only[Option.bind_some,z1,Nat.mul_one]
   have:=NJ (E:=E) (t:=e) (ss:=[.a k n' v]) (pre:=[]) (post:=[]) (off:=0) (i:=i) rfl j3 hb.1
   rw[ae7] at this
   rw[this];rfl
  ·cases h
 ·
  rename_i t x lo hi' hop
  split at h
  ·rename_i v hv
   have hxr:=aF (E:=E) hi hg hv
   have ho:∀vl vh,bV E fr lo=vl->bV E fr hi'=vh->∀y,dQ E.P σ t (fr.ev E x) vl vh none=some y->opV E fr σ aj o=some (y,σ):=by
    rintro vl vh rfl rfl y hy
    simp only[opV,hop]
    rw[show bV E fr none=none from rfl,hy];rfl
   split at h
   ·exact .val (BN h hxr hi (vl:=none) (vh:=none) (by intro y hy;cases hy) (fun _=>rfl) (by intro y hy;cases hy) (fun _=>rfl)) (ho _ _ rfl rfl)
   ·rename_i lo
    split at h
    ·rename_i l hl
     have hlr:=aF (E:=E) hi hg hl
     exact .val (BN h hxr hi (vl:=some (fr.ev E lo)) (vh:=none) (by intro y hy;cases hy;exact⟨_,rfl,hlr⟩) (by intro hy;cases hy) (by intro y hy;cases hy) (fun _=>rfl)) (ho _ _ rfl rfl)
    ·cases h
   ·rename_i hi'
    split at h
    ·rename_i l hl
     have hlr:=aF (E:=E) hi hg hl
     exact .val (BN h hxr hi (vl:=none) (vh:=some (fr.ev E hi')) (by intro y hy;cases hy) (fun _=>rfl) (by intro y hy;cases hy;exact⟨_,rfl,hlr⟩) (by intro hy;cases hy)) (ho _ _ rfl rfl)
    ·cases h
   ·rename_i lo hi'
    split at h
    ·rename_i l m hl hm
     have hlr:=aF (E:=E) hi hg hl
     have hmr:=aF (E:=E) hi hg hm
     exact .val (BN h hxr hi (vl:=some (fr.ev E lo)) (vh:=some (fr.ev E hi')) (by intro y hy;cases hy;exact⟨_,rfl,hlr⟩) (by intro hy;cases hy) (by intro y hy;cases hy;exact⟨_,rfl,hmr⟩) (by intro hy;cases hy)) (ho _ _ rfl rfl)
    ·cases h
  ·cases h
 ·
  rename_i t x lo hi' mx hop
  split at h
  ·rename_i cp u l kh hh BO km e hv YW YX hu
   split at h
   ·rename_i sz hsz
    cases hb:Nat.beq sz (szD R u)
    ·rw[hb] at h;cases h
    rw[hb,cond_true] at h
    have:=aP hb;subst this
    obtain⟨c',h2,_⟩:=(aF (E:=E) hi hg hv).dB
    have eh:=(aF (E:=E) hi hg YW).inv_int
    have em:=(aF (E:=E) hi hg YX).inv_int
    have fin:∀(vl:Option V) (a:Nat) (L:List (Den R.T u)),bV E fr lo=vl->bS l.length l.length vl (some (.int kh hh)) (some (.int BO km))=some (a,hh.toNat,km.toNat)->(l.take hh.toNat).drop a=L->∃y,eD E fr σ aj o y σ/\Rl R ρ σ.top (.lst .any u L) y:=by
     rintro vl a L hvl hsb rfl
     refine⟨.lst (if km.toNat=hh.toNat then .full else .sh) (((l.map (encD R u)).take hh.toNat).drop a),.bP ?_,?_⟩
     ·simp only[opV,hop,h2]
      rw[hvl,show bV E fr (some hi')=some (.int kh hh) by rw[xW,eh],show bV E fr (some mx)=some (.int BO km) by rw[xW,em]]
      unfold dQ
      rw[hu];dsimp only
      rw[hsz];simp only[Option.bind_some,ab3,hsb,xK hR,if_true,Option.isNone_some,aaB,and_false,if_false,Option.map_some]
     ·unfold Rl
      exact⟨_,by rw[Gx],trivial⟩
    split at h
    ·cases hf:fullD E o.dst with
     |false=>
      rw[hf,cond_false] at h
      cases h
      intro hc
      rw[RS] at hc
      exact fin none 0 _ rfl (by simp[bS,jk hc.1,jk hc.2]) (by simp[subL])
     |true=>
      rw[hf,cond_true] at h
      cases h
      intro hc
      rw[RS,RS] at hc
      obtain⟨y,hy1,hy2⟩:=fin none 0 _ rfl (by simp[bS,jk hc.1,jk hc.2.1]) rfl
      have hkm:hh=km:=by simpa using hc.2.2
      subst hkm
      refine⟨.lst .full (((l.map (encD R u)).take hh.toNat).drop 0),.bP ?_,?_⟩
      ·simp only[opV,hop,h2]
       rw[show bV E fr none=none from rfl,show bV E fr (some hi')=some (.int kh hh) by rw[xW,eh],show bV E fr (some mx)=some (.int BO hh) by rw[xW,em]]
       unfold dQ
       rw[hu];dsimp only
       have hsb:bS l.length l.length none (some (.int kh hh)) (some (.int BO hh))=some (0,hh.toNat,hh.toNat):=by simp[bS,jk hc.1,jk hc.2.1]
       rw[hsz];simp only[Option.bind_some,ab3,hsb,xK hR,if_true,Option.isNone_some,aaB,and_false,if_false,Option.map_some]
      ·unfold Rl
       exact⟨.full,by rw[Gx];simp[subL],rfl⟩
    ·rename_i lo'
     split at h
     ·rename_i ka a hva
      cases h
      intro hc
      rw[RS,RS] at hc
      have ea:=(aF (E:=E) hi hg hva).inv_int
      exact fin (some (.int ka a)) a.toNat _ (by rw[xW,ea]) (by simp[bS,jk hc.1,jk hc.2.1,jk hc.2.2]) (by simp[subL])
     ·cases h
   ·cases h
  ·cases h
 ·
  rename_i a b' x hop
  split at h
  ·rename_i p off k n lo hi' hv
   obtain⟨s,h1,hB,h2⟩:=(aF (E:=E) hi hg hv).nX
   split at h
   ·rename_i e hu1 hu2
    split at h
    ·rename_i hu3
     split at h
     ·rename_i l hl
      cases h
      obtain⟨cs,c1,c2,c3,c4⟩:=Nv hR hi hl h1 hB
      obtain⟨p1,p2,p3,_,_⟩:=qw hB
      refine .tt (y:=.str (List.map (fun n:Int=>UInt8.ofNat n.toNat) l)) ?_ (by unfold Rl;rfl)
      simp only[opV,hop,h2]
      unfold mh
      rw[hu1,hu2];dsimp only
      rw[hu3,c1];dsimp only
      simp only[Option.bind_some]
      rw[if_pos (by omega),c3]
      have:=Gw (R:=R) l
      rw[show l.map (V.int .u8)=List.map (encD R (.int .u8)) l from rfl,this];rfl
     ·cases h
    ·cases h
   ·cases h
  ·cases h
 ·
  rename_i t x hop
  split at h
  ·rename_i m e p off k n lo hi' ha hv
   cases h
   intro hc
   have hc:=of_decide_eq_true hc
   obtain⟨s,h1,hB,h2⟩:=(aF (E:=E) hi hg hv).nX
   obtain⟨p1,p2,p3,p4,p5⟩:=qw hB
   refine⟨.ref (ρ.om.lc p) s (off+(loI lo).toNat),.bP ?_,by unfold Rl;exact⟨s,h1,p4,by omega,rfl⟩⟩
   simp only[opV,hop,ha,h2,Option.bind_some]
   rw[if_pos ⟨hc.1,by omega⟩]
  ·rename_i m e c k l ha hv
   cases h
   intro hc
   have hc:=of_decide_eq_true hc
   obtain⟨c',h2,_⟩:=(aF (E:=E) hi hg hv).dB
   have hr:RlL R ρ σ.top (arrI R k m l) ((List.map (V.int k) l).take m):=by
    rw[<-YT hc.2];exact Oc l _
   refine⟨.cref ((List.map (V.int k) l).take m) 0,.bP ?_,by unfold Rl;exact⟨_,rfl,hr⟩⟩
   simp only[opV,hop,ha,h2,Option.bind_some]
   rw[if_pos ⟨hc.1,by rw[ab3];exact hc.2,by unfold oneCells;rw[List.all_map];exact aeP.2 fun _ _=>rfl⟩]
   rfl
  ·cases h
 ·
  rename_i c hop
  split at h
  ·rename_i p off k n lo hi' y aQ hvs
   split at h
   ·rename_i t ht
    split at h
    ·rename_i e he
     obtain⟨hel,h⟩:=aM h
     obtain⟨z1,z2⟩:=oz hel
     split at h
     ·rename_i l0 ss hsrc hl
      obtain⟨l,hl0⟩:∃l:List Int,l=l0:=⟨l0,rfl⟩
      subst hl0
      split at h
      ·rename_i pre k' n' v post hsp
       by_cases ek:k'=k
       ·subst ek
        rw[if_pos rfl] at h
        cases hb:Nat.beq n' n
        ·rw[hb] at h;cases h
        rw[hb,cond_true] at h
        have:=aP hb;subst this
        cases h
        have hargs:=kY (E:=E) hi hg hvs
        obtain⟨a1,as1,YZ,Y0,Y1⟩:=hargs.inv_cons
        obtain⟨a2,as2,Y2,Y3,Y4⟩:=Y1.inv_cons
        have Y5:=Y4.inv_nil
        subst Y5;subst Y2
        obtain⟨s,h1,hB,rfl⟩:=Y0.nX
        obtain⟨p1,p2,p3,p4,p5⟩:=qw hB
        obtain⟨s',h3,h4⟩:=hi.ob _ _ hl
        rw[h1] at h3;cases h3
        obtain⟨e1,w1⟩:=kF hsp
        obtain⟨q1,q2⟩:=GI hR (σ:=σ) (ag:=false) (z:=undefV) hsrc Y3
        have q1:dY σ false 1 undefV a2=some (List.map (V.int k') l):=q1
        have hlen:(hiI n' hi'-loI lo).toNat=(hiI n' hi').toNat-(loI lo).toNat:=by omega
        have hmin:min (List.map (V.int k') l).length ((hiI n' hi').toNat-(loI lo).toNat)=(List.take (hiI n' hi'-loI lo).toNat l).length:=by
         rw[ab3,aev,hlen,Nat.min_comm]
        have hfl:((List.map (V.int k') l).take (List.take (hiI n' hi'-loI lo).toNat l).length).flatMap V.cells=(List.take (hiI n' hi'-loI lo).toNat l).map (V.int k'):=by
         have:∀m:List Int,(m.map (V.int k')).flatMap V.cells=m.map (V.int k'):=by
          intro m
          induction m with
          |nil=>rfl
          |cons x m ih=>rw[aez,ae1,ih];rfl
         rw[<-List.map_take,this,aev]
         congr 1
         by_cases hle:(hiI n' hi'-loI lo).toNat<=List.length l
         ·rw[afC hle]
         ·rw[Nat.min_eq_right (by omega),afm (iP _),afm (by omega)]
        have hlt:(List.take (hiI n' hi'-loI lo).toNat l).length<=(hiI n' hi').toNat-(loI lo).toNat:=by rw[aev,hlen];exact Nat.min_le_left _ _
        have hone:(List.map (V.int k') l).all (fun v=>oneCells v.cells)=true:=by rw[List.all_map];simp[oneCells,V.cells,oneCell]
        refine⟨_,_,ρ,.of (o:=o) fun S=>?_,(hi.le (aeB _)).set p s (x:=.sg (pre++(.a k' n' (v.cpy (loI lo) (List.take (hiI n' hi'-loI lo).toNat l))::post))) (a:=.cells (sgV (pre++(.a k' n' (v.cpy (loI lo) (List.take (hiI n' hi'-loI lo).toNat l))::post)))) ⟨s,h1,cells_eq _ _ _ _⟩,rfl,by unfold Rl;rfl,fun q _=>ay.set hl rfl⟩
        unfold opC
        rw[hop];dsimp only
        rw[aQ];dsimp only
        rw[YZ]
        have hbv:fP E fr.om (o.dst.map fun t=>(fr.d,E.cn t)) σ aj .copy c.argTypes [.vw (ρ.om.lc p) s (off+(loI lo).toNat) ((hiI n' hi').toNat-(loI lo).toNat) (n'-(loI lo).toNat) 1 false,a2]=(c.argTypes[0]?).bind fun t=>copyV E.P σ t (.vw (ρ.om.lc p) s (off+(loI lo).toNat) ((hiI n' hi').toNat-(loI lo).toNat) (n'-(loI lo).toNat) 1 false) a2:=rfl
        rw[hbv,ht];simp only[Option.bind_some]
        rw[YO he z1 z2 q2 q1 hone h4 (by rw[hmin,bQ,e1,oC,w1,BJ];show off+(loI lo).toNat+_<=off+(n'+_);omega),hmin,hfl]
        simp only[Option.map_some]
        rw[e1,NP (w:=v.cpy (loI lo) (List.take (hiI n' hi'-loI lo).toNat l)) w1 (by omega) (by unfold Vec.cpy;rw[xU];simp only[aaG,aev,aex,v.h] at*;omega)]
        try rfl
       ·rw[if_neg ek] at h;cases h
      ·cases h
     ·cases h
    ·cases h
   ·cases h
  ·cases h
 ·cases h
omit hR in
theorem Oe {α:Type} (l:List α):∀n,(List.replicate n l).flatten.length=n*l.length
 |0=>by simp
 |n+1=>by rw[List.replicate_succ,List.flatten_cons,aaG,Oe l n,afe];omega
omit hR in
theorem ak.set0 (h:ak ρ b st fr σ) (o:Nat) {x:Ob R.T} (hx:aR ρ σ o x):ak ρ b (st.set o x) fr σ:={h with
 fr:=h.fr
 ob:=fun p y hy=>by
  have hy':look ((o,x)::delF o st.ob) p=some y:=hy
  by_cases e:p=o
  ·subst e
   rw[bX] at hy';cases hy'
   exact hx
  ·rw[bf _ _ e,eY e] at hy'
   exact h.ob p y hy'}
omit hR in
theorem ay.set0 {nr:Bool} {o q:Nat} {x y:Ob R.T} (hl:look st.ob o=some y) (hy:isRo y=false):ay nr q st ρ σ (st.set o x) ρ σ:=⟨rfl,rfl,rfl,iP _,⟨fun _ _=>rfl,fun _ _=>rfl⟩,fun _ _ _=>rfl,fun hr=>by
 have hne:q≠o:=by rintro rfl;rw[hr y hl] at hy;cases hy
 refine⟨fun z hz=>?_,fun s'=>⟨rfl,rfl⟩⟩
 have hz':look ((o,x)::delF o st.ob) q=some z:=hz
 rw[bf _ _ hne,eY hne] at hz'
 exact hr z hz'⟩
theorem Y6 {t:TypeId} {x:TV R.T} {v:V} {r:Res R} (h:clrM E R t x st=some r) (hx:Rl R ρ σ.top x v) (hi:ak ρ aj st fr σ)
 (ho:∀y σ',jV E.P σ t v=some (y,σ')->eD E fr σ aj o y σ'):gL E st ρ aj fr σ o r:=by
 have hi1:=hi.le (aeB aj)
 unfold clrM at h
 split at h
 ·rename_i p τ a c e τ' sz by_ hw he
  have hxs:=Nk hR hw hx hi
  obtain⟨z0,e1,e2,e3,e4,e5,e6,e7,e8,e9⟩:=tT he
  split at h
  ·rename_i et
   subst et
   split at h
   ·rename_i τ2 l0 z hl hz
    split at h
    ·rename_i l zz hc hzu
     obtain⟨hzc,h⟩:=aM h
     rw[RS] at hzc
     cases h
     obtain⟨ec,Y7⟩:=iJ hc;subst ec;cases Y7
     obtain⟨zv,z1,z2⟩:=qp (ρ:=ρ) (top:=σ.top) hz
     rw[e5] at z1;cases z1
     obtain⟨g0,g1,g2,hv⟩:=hxs.nW
     have hO:=hi.ob _ _ hl
     have hlen:l0.length=ρ.ln p:=hO.1
     have hnr:isRo (Ob.arr τ2 l0)=false:=rfl
     have hcl:oneCells z0.cells=true:=tL hzc.1 (iL hzc.2 z2).1
     have hll:(clrL l0 a c zz).length=l0.length:=by
      unfold clrL
      rw[aaG,aaG,aev,List.length_replicate,aex];omega
     have same:a=c->clrL l0 a c zz=l0:=fun e=>by
      unfold clrL
      rw[e,Int.sub_self];simp
     have quiet:a=c->jV E.P σ t v=some (undefV,σ)->gL E st ρ aj fr σ o (.w .undef (st.set p (.arr τ2 (clrL l0 a c zz)))):=fun e hcv=>by
      rw[same e]
      exact⟨undefV,σ,ρ,ho _ _ hcv,hi1.set0 p hO,rfl,by unfold Rl;rfl,fun q hq=>ay.set0 hl hnr⟩
     rcases hv with ⟨s,cp,h1,h2,rfl⟩| ⟨e,k,rfl⟩
     ·rcases hO.2 with hO2| ⟨s',cs,k3,k4,k5⟩
      ·rw[h1] at hO2;exact absurd hO2.2 (by simp)
      ·rw[h1] at k3;cases k3
       have hlc:cs.length=l0.length*szD R τ2:=by rw[k5.length,ou]
       have hle:a.toNat*szD R τ2+(c-a).toNat*szD R τ2<=cs.length:=by
        rw[hlc,<-ae6];exact ae3 _ (by omega)
       subst e6
       by_cases hz0:(c-a).toNat=0
       ·refine quiet (by omega) ?_
        unfold jV
        simp only[e1,e2,e3,e5,Option.bind_some,k4]
        rw[if_pos ⟨e9,hcl⟩,if_pos ⟨trivial,hle⟩,if_pos hz0]
       ·have hcv:jV E.P σ t (.vw (ρ.om.lc p) s (a.toNat*szD R τ2) (c-a).toNat cp (szD R τ2) (isSt τ2))=some (undefV,σ.setObj (ρ.om.lc p) s (.cells (spliceL cs (a.toNat*szD R τ2) ((List.replicate (c-a).toNat z0).flatMap V.cells)))):=by
         unfold jV
         simp only[e1,e2,e3,e5,Option.bind_some,k4]
         rw[if_pos ⟨e9,hcl⟩,if_pos ⟨trivial,hle⟩,if_neg hz0]
        have hvl:((List.replicate (c-a).toNat z0).flatMap V.cells).length=(c-a).toNat*szD R τ2:=by
         rw[xL,Oe,e9]
        have hrl:RlL R ρ σ.top ((clrL l0 a c zz).flatMap fun x=>(tvD R .any τ2 x).cells) (spliceL cs (a.toNat*szD R τ2) ((List.replicate (c-a).toNat z0).flatMap V.cells)):=by
         unfold clrL spliceL
         rw[hvl,List.flatMap_append,List.flatMap_append,<-GL (fun x=>oq .any τ2 x),<-GK (fun x=>oq .any τ2 x),aeC]
         refine(k5.take _).append (RlL.append ?_ ?_)
         ·rw[xL,xL]
          refine GN ?_ _
          have h1:=qm hR hzu z2
          refine(iL ?_ h1).1
          cases τ2<;>rfl
         ·rw[<-ae6,show a.toNat+(c-a).toNat=c.toNat by omega]
          exact k5.drop _
        refine⟨undefV,_,ρ,ho _ _ hcv,hi1.set p s ⟨hll.trans hO.1,.inr ⟨s,_,h1,cells_eq _ _ _ _,jL _ _ hrl⟩⟩,rfl,by unfold Rl;rfl,fun q hq=>ay.set hl hnr⟩
     ·refine quiet e ?_
      unfold jV
      simp only[e1,e2,e3,e5,Option.bind_some]
      rw[if_pos ⟨e9,hcl⟩]
    ·cases h
   ·cases h
  ·cases h
 ·cases h
theorem Y8 {om:Bool} {F:Nat->List (FR R)} (hF:RegsOK E F) (hom:ρ.om.om=om) (aZ:∀d,o.dst=some d->d<F0) {g:List (Nat×Bool)} (hg:gZ fr g) (hi:ak ρ aj st fr σ) {r:Res R} (h:opO E R om F g o.dst o.op st=some r):gL E st ρ aj fr σ o r:=by
 unfold opO at h
 split at h
 ·
  rename_i x hop
  cases hz:fzM E o.dst
  ·rw[hz] at h;dsimp only[cond_false] at h
   split at h
   ·rename_i v hv;cases h;exact .tt (y:=fr.ev E x) (by simp only[opV,hop,hz,aaB,if_false]) (aF hi hg hv)
   ·cases h
  ·rw[hz] at h;dsimp only[cond_true] at h
   split at h
   ·rename_i p t hv
    split at h
    ·rename_i t' l0 hl
     split at h
     ·rename_i l hc
      cases h
      obtain⟨e1,e2⟩:=iJ hc
      subst e1
      cases e2
      have hO:=hi.ob p _ hl
      have hrl:∀ρ',Rl R ρ' σ.top (.lst .any t' l0) (.lst .sh (l0.map (encD R t'))):=fun ρ'=>by unfold Rl;exact⟨.sh,rfl,trivial⟩
      rcases (aF (E:=E) hi hg hv).mM with ⟨s,h1,h2⟩| ⟨h1,h2⟩
      ·rcases hO.2 with h3| ⟨s',cs,h3,h4,h5⟩
       ·rw[h1] at h3;exact absurd h3.2 (by simp)
       ·rw[h1] at h3;cases h3
        have hlc:cs.length=l0.length*szD R t':=by rw[h5.length,ou]
        have hlen:l0.length=ρ.ln p:=hO.1
        refine⟨.lst .sh (l0.map (encD R t')),σ.aX (ρ.om.lc p),ρ,.bP ?_,(hi.del p).le (aeB _),rfl,hrl ρ,fun q _=>ay.del hl rfl⟩
        simp only[opV,hop,hz,if_true,h2,jY,h4,Option.bind_some,ae7,afq]
        rw[afm (by rw[hlc,hlen];exact iP _),Nr hR l0 cs h5,<-hlen,GU hR l0,GV hR l0]
        rw[if_pos ⟨by rw[hlc];exact iP _,rfl⟩]
      ·have hl0:l0=[]:=afa (hO.1.trans h1)
       subst hl0
       refine⟨.lst .sh [],σ,ρ,.bP ?_,(hi.del' p).le (aeB _),rfl,hrl ρ,fun q _=>ay.del' hl rfl⟩
       simp only[opV,hop,hz,if_true]
       rcases h2 with h2|h2<;>rw[h2]<;>rfl
     ·cases h
    ·cases h
   ·rename_i k m hv
    cases h
    have hr:=aF (E:=E) hi hg hv
    refine .tt (y:=.int k m) ?_ (by unfold Rl;rfl)
    simp only[opV,hop,hz,if_true,hr.inv_int,jY]
   ·cases h
 ·rename_i x hop
  split at h
  ·rename_i v hv;cases h;exact .tt (y:=fr.ev E x) (by simp only[opV,hop]) (aF hi hg hv)
  ·cases h
 ·
  rename_i c a' b' hop
  split at h
  ·rename_i j
   split at h
   ·rename_i t hc
    have hc':=(aF (E:=E) hi hg hc).gK
    split at h
    ·rename_i x y hx hy
     split at h
     ·rename_i v hv
      cases h
      refine .tt (uf hop hc') ?_
      rw[sS] at hc'
      cases t
      ·exact NV hv (aF (E:=E) hi (.cons hc' hg) hy)
      ·exact NU hv (aF (E:=E) hi (.cons hc' hg) hx)
     ·cases h
    ·cases h
   ·rename_i t hc
    have hc':=(aF (E:=E) hi hg hc).ji
    split at h
    ·rename_i v hv
     cases h
     refine .tt (uf hop hc') ?_
     cases t
     ·exact aF (E:=E) hi hg hv
     ·exact aF (E:=E) hi hg hv
    ·cases h
   ·cases h
  ·cases h
 ·
  rename_i t hop
  split at h
  ·rename_i d z hd hz
   obtain⟨hc,h⟩:=aM h
   cases h
   simp only[RS,aff] at hc
   obtain⟨v,hv,hr⟩:=qp (ρ:=ρ) (top:=σ.top) hz
   have Y9:notG z=true:=by
    cases z<;>first|rfl| (have:=hc.1;simp[TV.cells,oneMs,oneM] at this)
   obtain⟨hcells,_⟩:=iL Y9 hr
   refine⟨.ref (ρ.om.lc d) aj 0,_,ρ.dI d aj,.bP (o:=o) ?_,N9 hR (hi.le (aeB _)) hcells hc.2,rfl,by unfold Rl;exact⟨aj,fH,rfl⟩,fun q hq=>ay.new (fun e=>hq.1 (by rw[hd,e]))⟩
   simp only[opV,hop,hd,Option.map_some,Option.bind_some,hv,tL hc.1 hcells,if_true,hi.at (aZ _ hd)]
  ·cases h
 ·
  rename_i t x hop
  cases hz:frzB E t o.dst with
  |true=>
   rw[hz,cond_true] at h
   split at h
   ·rename_i v hv
    obtain⟨hc,h⟩:=aM h
    cases h
    rw[RS] at hc
    have hr:=aF (E:=E) hi hg hv
    have hnr:=(iL hc.2 hr).2
    have hr2:=YR (by rw[RS];exact hc) hr
    obtain⟨hcells,_⟩:=iL (YP hc.2) hr2
    refine .tt (y:=.cref (er (fr.ev E x)).cells 0) ?_ ?_
    ·simp only[opV,hop,hz,if_true,xO hR _ _ hc.1 hr2,hnr,and_self]
    ·unfold Rl;exact⟨_,rfl,hcells⟩
   ·cases h
  |false=>
  rw[hz,cond_false] at h
  split at h
  ·rename_i d v hd hv
   obtain⟨hc,h⟩:=aM h
   cases h
   simp only[RS,aff] at hc
   have hr:=aF (E:=E) hi hg hv
   obtain⟨hcells,hnr⟩:=iL hc.1.2 hr
   refine⟨.ref (ρ.om.lc d) aj 0,_,ρ.dI d aj,.bP (o:=o) ?_,N9 hR (hi.le (aeB _)) hcells hc.2,rfl,by unfold Rl;exact⟨aj,fH,rfl⟩,fun q hq=>ay.new (fun e=>hq.1 (by rw[hd,e]))⟩
   simp only[opV,hop,(show frzB E t (some d)=false from hd▸hz),aaB,if_false,hd,Option.map_some,Option.bind_some,tL hc.1.1 hcells,hnr,and_self,if_true,hi.at (aZ _ hd)]
  ·cases h
 ·
  rename_i t parts hop
  split at h
  ·rename_i pl z ps hpl hz hps
   split at h
   ·rename_i cs hcs
    cases h
    obtain⟨zv,hzv,Gz⟩:=qp (ρ:=ρ) (top:=σ.top) hz
    obtain⟨e1,e2⟩:=Gn (E:=E) hi hg hps
    have hzc:RlL R ρ σ.top z.cells zv.cells:=by
     refine(iL ?_ Gz).1
     unfold zeroM at hz
     cases z<;>first|rfl|skip
     all_goals
      exfalso
      split at hz
      ·split at hz
       ·unfold ofValueM at hz
        split at hz
        ·split at hz<;>cases hz
        ·unfold ofScalarM at hz;split at hz<;>cases hz
       ·cases hz
      ·cases hz
    obtain⟨l',f1,f2⟩:=MW (qs:=parts.toList.map fun p=>(p.1,fr.ev E p.2)) pl (by rw[e1];simp[Function.comp_def]) (by simpa [Function.comp_def] using e2) hzc hcs
    refine .tt (y:=.agg l') ?_ (by unfold Rl;exact⟨l',rfl,f2⟩)
    simp only[opV,hop,hpl,hzv,Option.bind_some]
    rw[f1];rfl
   ·cases h
  ·cases h
 ·
  rename_i t len parts hop
  split at h
  ·rename_i ps hps
   obtain⟨e1,e2⟩:=Gn (E:=E) hi hg hps
   cases hz:bsM E o.dst
   ·rw[hz,cond_false] at h
    refine .val (Ya hR (qs:=parts.toList.map fun p=>(p.1,fr.ev E p.2)) h (by rw[e1];simp[Function.comp_def]) (by simpa [Function.comp_def] using e2)) fun y hy=>?_
    simp only[opV,hop,hz,aaB,if_false]
    rw[hy];rfl
   ·rw[hz,cond_true] at h
    refine Yp hR (qs:=parts.toList.map fun p=>(p.1,fr.ev E p.2)) h (by rw[e1];simp[Function.comp_def]) (by simpa [Function.comp_def] using e2) hi rfl fun y σ' hy=>.bP ?_
    simp only[opV,hop,hz,if_true]
    exact hy
  ·cases h
 ·
  rename_i t a hop
  split at h
  ·rename_i p off hv
   split at h
   ·rename_i cs hl
    split at h
    ·rename_i v hld
     cases h
     obtain⟨s,h1,h2⟩:=(aF (E:=E) hi hg hv).fU
     obtain⟨s',l,h3,h4,h5⟩:=hi.rd hl
     rw[h1] at h3;cases h3
     obtain⟨y,hy,hr⟩:=mQ h5 hld
     exact .tt (by simp only[opV,hop,h2,h4,Option.bind_some,hy,Option.map_some]) hr
    ·cases h
   ·cases h
  ·rename_i cs off hv
   split at h
   ·rename_i v hld
    cases h
    obtain⟨l,h2,h5⟩:=(aF (E:=E) hi hg hv).iI
    obtain⟨y,hy,hr⟩:=mQ h5 hld
    exact .tt (by simp only[opV,hop,h2,hy,Option.map_some]) hr
   ·cases h
  ·rename_i p τ i off hv
   split at h
   ·rename_i ob hl
    obtain⟨s,h1,_,h2⟩:=(aF (E:=E) hi hg hv).qc
    obtain⟨l,f,rfl,hf⟩:=Yj h (hi.rd hl) h1
    intro y hy
    obtain⟨cs,w,h3,h4,h5⟩:=hf y hy
    exact⟨w,.bP (by simp only[opV,hop,h2,h3,Option.bind_some,h4,Option.map_some]),h5⟩
   ·cases h
  ·cases h
 ·
  rename_i t a x hop
  split at h
  ·rename_i p off v hv hx
   split at h
   ·rename_i cs sz hl hsz
    obtain⟨hc,h⟩:=aM h
    cases h
    simp only[RS] at hc
    obtain⟨⟨⟨c1,c2⟩,c3⟩,c4⟩:=hc
    obtain⟨s,h1,h2⟩:=(aF (E:=E) hi hg hv).fU
    obtain⟨s',l,h3,h4,h5⟩:=hi.ob _ _ hl
    rw[h1] at h3;cases h3
    obtain⟨h6,h7⟩:=iL c4 (aF (E:=E) hi hg hx)
    refine⟨undefV,_,ρ,.bP (o:=o) ?_,(hi.le (aeB _)).set p s ⟨s,_,h1,cells_eq _ _ _ _,Gu off h5 h6⟩,rfl,by unfold Rl;rfl,fun q _=>ay.set hl rfl⟩
    simp only[opV,hop,h2,h4,Option.bind_some]
    rw[if_pos ⟨by rw[hsz,h6.length,aP c1],by rw[h6.length,h5.length];exact ae2 c2,tL c3 h6⟩]
   ·cases h
  ·cases h
 ·
  rename_i x hop
  split at h
  ·rename_i p off hv;cases h
   have hr:=aF (E:=E) hi hg hv
   obtain⟨s,h1,h2⟩:=hr.fU
   exact .tt (y:=fr.ev E x) (by simp only[opV,hop,h2]) hr
  ·rename_i p off hv;cases h
   have hr:=aF (E:=E) hi hg hv
   obtain⟨s,h2,h1⟩:=hr.iI
   exact .tt (y:=fr.ev E x) (by simp only[opV,hop,h2]) hr
  ·rename_i p τ i off hv;cases h
   have hr:=aF (E:=E) hi hg hv
   obtain⟨s,h1,_,h2⟩:=hr.qc
   exact .tt (y:=fr.ev E x) (by simp only[opV,hop,h2]) hr
  ·rename_i f a' b' hv;cases h
   have hr:=aF (E:=E) hi hg hv
   obtain⟨a',b',h2,h1⟩:=hr.eB
   exact .tt (y:=fr.ev E x) (by simp only[opV,hop,h2]) hr
  ·cases h
 ·
  rename_i op t x y t' hop
  split at h
  ·rename_i x' y' hx hy
   exact .val (X3 h (aF (E:=E) hi hg hx) (aF (E:=E) hi hg hy)) fun z hz=>by simp only[opV,hop,hz,Option.map_some]
  ·cases h
 ·
  rename_i op t x hop
  split at h
  ·rename_i x' hx
   exact .val (X4 h (aF (E:=E) hi hg hx)) fun z hz=>by simp only[opV,hop,hz,Option.map_some]
  ·cases h
 ·
  rename_i a' b' x hop
  split at h
  ·rename_i x' hx
   exact .val (X5 (σ:=σ) h (aF (E:=E) hi hg hx)) fun z hz=>by simp only[opV,hop,hz,Option.map_some]
  ·cases h
 ·
  rename_i f a' b' hop
  split at h
  ·rename_i xs ys hx hy
   cases h
   exact .tt (y:=.fn (.func f) (a'.toList.map (fr.ev E)) (b'.toList.map (fr.ev E))) (by simp only[opV,hop]) (by unfold Rl;exact⟨_,_,rfl,kY (E:=E) hi hg hx,kY (E:=E) hi hg hy⟩)
  ·cases h
 ·
  rename_i t hop
  split at h
  ·rename_i d k e hd ht
   split at h
   ·rename_i k' e' hk he
    cases h
    refine⟨.mapr (ρ.om.lc d) aj,_,ρ.dI d aj,.bP (o:=o) ?_,(hi.le (aeB _)).new d aj (a:=.map [] []) ⟨aj,fH,map_eq σ (ρ.om.lc d) aj [] []⟩,rfl,by unfold Rl;exact⟨aj,fH,rfl⟩,fun q hq=>ay.new (fun e=>hq.1 (by rw[hd,e]))⟩
    simp only[opV,hop,hd,Option.map_some,hi.at (aZ _ hd)]
   ·cases h
    refine⟨.mapr (ρ.om.lc d) aj,_,ρ.dI d aj,.bP (o:=o) ?_,(hi.le (aeB _)).new d aj (a:=.map [] []) ⟨aj,[],[],fH,map_eq σ (ρ.om.lc d) aj [] [],rfl,rfl⟩,rfl,by unfold Rl;exact⟨aj,fH,rfl⟩,fun q hq=>ay.new (fun e=>hq.1 (by rw[hd,e]))⟩
    simp only[opV,hop,hd,Option.map_some,hi.at (aZ _ hd)]
  ·cases h
 ·
  rename_i t l c hop
  split at h
  ·rename_i n m hn hm
   refine Yr hR h (aF (E:=E) hi hg hn) (aF (E:=E) hi hg hm) hi rfl fun y σ' hy=>.bP ?_
   have e:(o.dst.map fun t=>(fr.d,t))=o.dst.map fun t=>(ρ.om.lc t):=hi.N8 aZ
   simp only[opV,hop]
   rw[e,hi.om,hom];exact hy
  ·cases h
 ·
  rename_i t x lo hi' hop
  split at h
  ·rename_i x' hx
   have hxr:=aF (E:=E) hi hg hx
   split at h
   ·exact .val (BA hR (σ:=σ) (vl:=none) (vh:=none) h hxr hi (fun y hy=>by cases hy) (fun _=>rfl) (fun y hy=>by cases hy) (fun _=>rfl)) fun z hz=>by simp only[opV,hop,bV,hz,Option.map_some]
   ·rename_i lo
    split at h
    ·rename_i l hl
     exact .val (BA hR (σ:=σ) (vl:=some (fr.ev E lo)) (vh:=none) h hxr hi (fun y hy=>by cases hy;exact⟨_,rfl,aF (E:=E) hi hg hl⟩) (fun h=>by cases h) (fun y hy=>by cases hy) (fun _=>rfl)) fun z hz=>by simp only[opV,hop,bV,hz,Option.map_some]
    ·cases h
   ·rename_i hi2
    split at h
    ·rename_i l hl
     exact .val (BA hR (σ:=σ) (vl:=none) (vh:=some (fr.ev E hi2)) h hxr hi (fun y hy=>by cases hy) (fun _=>rfl) (fun y hy=>by cases hy;exact⟨_,rfl,aF (E:=E) hi hg hl⟩) (fun h=>by cases h)) fun z hz=>by simp only[opV,hop,bV,hz,Option.map_some]
    ·cases h
   ·rename_i lo hi2
    split at h
    ·rename_i l l2 hl hl2
     exact .val (BA hR (σ:=σ) (vl:=some (fr.ev E lo)) (vh:=some (fr.ev E hi2)) h hxr hi (fun y hy=>by cases hy;exact⟨_,rfl,aF (E:=E) hi hg hl⟩) (fun h=>by cases h) (fun y hy=>by cases hy;exact⟨_,rfl,aF (E:=E) hi hg hl2⟩) (fun h=>by cases h)) fun z hz=>by simp only[opV,hop,bV,hz,Option.map_some]
    ·cases h
  ·cases h
 ·
  rename_i t x f hop
  split at h
  ·rename_i x' hx
   have hxr:=aF (E:=E) hi hg hx
   split at h
   ·rename_i v hv
    cases h
    unfold fieldsM at hv
    split at hv
    ·rename_i p u hf
     split at hv
     ·rename_i q off
      cases hv
      obtain⟨s,h1,h2⟩:=hxr.fU
      exact .tt (y:=.ref (ρ.om.lc q) s (off+p)) (by simp only[opV,hop,hf,Option.bind_some,h2]) (by unfold Rl;exact⟨s,h1,rfl⟩)
     ·rename_i q off
      cases hv
      obtain⟨l,h2,h1⟩:=hxr.iI
      exact .tt (y:=.cref l (off+p)) (by simp only[opV,hop,hf,Option.bind_some,h2]) (by unfold Rl;exact⟨l,rfl,h1⟩)
     ·rename_i q τ i off
      cases hv
      obtain⟨s,h1,h3,h2⟩:=hxr.qc
      exact .tt (y:=.ref (ρ.om.lc q) s (i.toNat*szD R τ+off+p)) (by simp only[opV,hop,hf,Option.bind_some,h2]) (by unfold Rl;exact⟨s,h1,h3,by rw[ae9]⟩)
     ·cases hv
    ·cases hv
   ·cases h
  ·cases h
 ·
  rename_i t x f hop
  split at h
  ·rename_i p u cs hf hx
   split at h
   ·rename_i v hv
    cases h
    obtain⟨l,h1,h2⟩:=(aF (E:=E) hi hg hx).dL
    obtain⟨y,hy,hr⟩:=mQ h2 hv
    exact .tt (by simp only[opV,hop,hf,Option.bind_some,h1,hy,Option.map_some]) hr
   ·cases h
  ·cases h
 ·
  rename_i t x i hop
  split at h
  ·rename_i p τ y' hx hy
   exact .val (Yw hR (om:=false) h (aF (E:=E) hi hg hx) (aF (E:=E) hi hg hy) hi) fun z hz=>by simp only[opV,hop,hz,Option.map_some]
  ·rename_i p τ a c y' hx hy
   exact .val (Yv hR h (aF (E:=E) hi hg hx) (aF (E:=E) hi hg hy) hi) fun z hz=>by simp only[opV,hop,hz,Option.map_some]
  ·rename_i x' y' _ _ hx hy
   exact .val (YF hR h (aF (E:=E) hi hg hx) (aF (E:=E) hi hg hy)) fun z hz=>by simp only[opV,hop,hz,Option.map_some]
  ·cases h
 ·
  rename_i t x i hop
  split at h
  ·rename_i x' y' hx hy
   exact .val (YG h (aF (E:=E) hi hg hx) (aF (E:=E) hi hg hy)) fun z hz=>by simp only[opV,hop,hz,Option.map_some]
  ·cases h
 ·
  rename_i t x i ok hop
  split at h
  ·rename_i x' y' hx hy
   exact .val (YS hR h (aF (E:=E) hi hg hx) (aF (E:=E) hi hg hy) hi) fun z hz=>by simp only[opV,hop,hz,Option.map_some]
  ·cases h
 ·
  rename_i t m k v hop
  split at h
  ·rename_i m' k' v' hm hk hv
   exact N7 hR h (aF (E:=E) hi hg hm) (aF (E:=E) hi hg hk) (aF (E:=E) hi hg hv) hi fun σ' hs=>by simp only[opV,hop,hs,Option.map_some]
  ·cases h
 ·rename_i t m k v hop
  split at h
  ·rename_i m' k' v' hm hk hv
   exact N7 hR h (aF (E:=E) hi hg hm) (aF (E:=E) hi hg hk) (aF (E:=E) hi hg hv) hi fun σ' hs=>by simp only[opV,hop,hs,Option.map_some]
  ·cases h
 ·
  rename_i x i hop
  split at h
  ·rename_i vs hv
   split at h
   ·rename_i v hx
    cases h
    obtain⟨l,h1,h2⟩:=(aF (E:=E) hi hg hv).sW
    obtain⟨y,hy,hr⟩:=h2.get hx
    exact .tt (by simp only[opV,hop,h1,hy,Option.map_some]) hr
   ·cases h
  ·cases h
 ·
  rename_i c hop
  split at h
  ·rename_i bi aQ
   split at h
   ·rename_i vs hvs
    have hrs:=kY (E:=E) hi hg hvs
    have step:∀y σ',fP E fr.om (o.dst.map fun t=>(fr.d,E.cn t)) σ aj bi c.argTypes (c.args.toList.map (fr.ev E))=some (y,σ')->eD E fr σ aj o y σ':=fun y σ' hb=>.of fun S=>by
     simp only[opC,hop,aQ,hb,Option.map_some]
    unfold blt at h
    split at h
    ·rename_i x
     split at h
     ·rename_i t ht
      split at h
      ·rename_i n hn
       cases h
       obtain⟨v,l,e,h1,h2⟩:=hrs.inv_cons
       rw[h2.inv_nil] at e
       refine⟨_,step _ σ ?_,by unfold Rl;rfl⟩
       rw[e]
       simp only[fP,ht,Option.bind_some,Yd hn h1 hi,Option.map_some]
      ·cases h
     ·cases h
    ·rename_i x y
     split at h
     ·rename_i t u ht hu
      obtain⟨v,l,e,h1,h2⟩:=hrs.inv_cons
      obtain⟨w,l',e',h3,h4⟩:=h2.inv_cons
      subst e'
      rw[h4.inv_nil] at e
      have e0:(o.dst.map fun t=>(fr.d,t))=o.dst.map fun t=>(ρ.om.lc t):=hi.N8 aZ
      have fin:isSS E u=true->∀z σ',dD E.P om false σ aj (o.dst.map fun t=>(fr.d,E.cn t)) t v w=some (z,σ')->eD E fr σ aj o z σ':=fun hss z σ' hz=>step z σ' (by
       rw[e]
       unfold isSS at hss
       simp only[fP,ht,hu,Option.bind_some,hi.om,hom]
       split at hss
       ·rename_i hu';rw[hu'];simp only[hz,Option.bind_some]
       ·rename_i hu';rw[hu'];simp only[hz,Option.bind_some]
       ·cases hss)
      cases xX:om
      ·rw[xX] at h fin
       have h':appM E R o.dst t u x y st=some r:=h
       have hss:isSS E u=true:=by
        unfold appM at h'
        split at h'
        ·split at h'
         ·exact(aM h').1
         ·cases h'
        ·cases h'
       exact Yc hR (loc:=o.dst.map fun t=>(fr.d,E.cn t)) h' h1 h3 hi (fin hss)
      ·rw[xX] at h fin
       have h':appOM E R o.dst t u x y st=some r:=h
       have hss:isSS E u=true:=by
        unfold appOM at h'
        split at h'
        ·rename_i d' _
         cases hbl:Nat.ble F0 (E.cn d') with
         |true=>rw[hbl] at h';cases h'
         |false=>
          rw[hbl,cond_false] at h'
          split at h'
          ·exact(aM h').1
          ·cases h'
        ·cases h'
       exact Yq hR h' h1 h3 hi rfl (fin hss)
     ·cases h
    ·rename_i x
     split at h
     ·rename_i t ht
      obtain⟨v,l,e,h1,h2⟩:=hrs.inv_cons
      rw[h2.inv_nil] at e
      exact Y6 hR h h1 hi fun y σ' hy=>step y σ' (by rw[e];simp only[fP,ht,Option.bind_some,hy])
     ·cases h
    ·rename_i x l
     split at h
     ·rename_i v hv
      cases h
      obtain⟨y,ys,e,h1,h2⟩:=hrs.inv_cons
      obtain⟨w,hw,hr⟩:=GJ false hv h1 h2
      refine⟨w,step w σ ?_,hr⟩
      rw[e]
      simp only[fP,hw,Option.map_some]
     ·cases h
    ·rename_i x l
     split at h
     ·rename_i v hv
      cases h
      obtain⟨y,ys,e,h1,h2⟩:=hrs.inv_cons
      obtain⟨w,hw,hr⟩:=GJ true hv h1 h2
      refine⟨w,step w σ ?_,hr⟩
      rw[e]
      simp only[fP,hw,Option.map_some]
     ·cases h
    ·cases h
   ·cases h
  ·rename_i f aQ
   split at h
   ·rename_i f' a' b' vs hf hvs
    cases himp:E.imp f' with
    |true=>rw[himp] at h;cases h
    |false=>
     rw[himp,cond_false] at h
     obtain⟨va,vb,h1,h2,h3⟩:=(aF (E:=E) hi hg hf).eB
     exact NC hR hF hop aQ h1 himp ((h2.append (kY (E:=E) hi hg hvs)).append h3) hi (fun _ hx=>hx) h
   ·cases h
  ·cases h
 ·cases h
theorem lg {om:Bool} {F:Nat->List (FR R)} (hF:RegsOK E F) (hom:ρ.om.om=om) (aZ:∀d,o.dst=some d->d<F0) {g:List (Nat×Bool)} (hg:gZ fr g) (hi:ak ρ aj st fr σ) {r:Res R} (h:opM E R om F g o.dst o.op st=some r):gL E st ρ aj fr σ o r:=by
 unfold opM at h
 split at h
 ·rename_i r' hx;cases h;exact YU hR aZ hg hi hx
 ·exact Y8 hR hF hom aZ hg hi h
end
end Aq
end
