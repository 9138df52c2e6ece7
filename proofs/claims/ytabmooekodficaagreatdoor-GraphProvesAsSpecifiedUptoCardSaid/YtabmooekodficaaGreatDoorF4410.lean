import Derived.Test.YtabmooekodficaaGreatDoorF4409
set_option linter.all false
section
namespace Aq
open Go
section
variable {R:Reg} {E:Env}
variable {ρ:au} {top:Nat->Nat} {b:Nat} {st:MS R.T} {fr:Fr} {σ:Sig}
theorem aM.{u} {α:Type u} {c:Bool} {o:Option α} {y:α} (h:(bif c then o else none)=some y):c=true/\o=some y:=by
 cases c
 ·cases h
 ·exact⟨rfl,h⟩
theorem tT {t e:TypeId} {u:Ty} {sz by_:Nat} (h:elM E R t=some (e,u,sz,by_)):∃z,elemT E.P t=some e/\szT E.P e=some sz/\bytesT E.P e=some by_/\isAggT E.P e=some (isSt u)/\zeroT E.P e=some z/\
 sz=szD R u/\0<sz/\(isSt u||sz==1)=true/\z.cells.length=sz:=by
 unfold elM at h
 split at h
 ·rename_i e' he
  split at h
  ·rename_i u' sz' by' ag z h1 h2 h3 h4 h5
   obtain⟨hc,h⟩:=aM h
   cases h
   simp only[RS] at hc
   obtain⟨⟨⟨⟨c1,c2⟩,c3⟩,c4⟩,c5⟩:=hc
   have:ag=isSt u:=by simpa using c5
   subst this
   refine⟨z,he,h2,h3,h4,h5,aP c1,ae2 c2,?_,aP c4⟩
   rw[afp] at c3⊢
   rcases c3 with c3|c3
   ·exact .inl c3
   ·exact .inr (by rw[aP c3];rfl)
  ·cases h
 ·cases h
theorem GA (ag:Bool) (sz:Nat):∀vs:List V,(∀v∈vs,v.cells.length=sz)->chunks ag sz vs.length (vs.flatMap V.cells)=vs.map fun v=>if ag then .agg v.cells else v.cells.headD undefV
 | [],_=>rfl
 |v::vs,h=>by
  have h1:=h v (by simp)
  have h2:=GA ag sz vs (fun w hw=>h w (by simp[hw]))
  show _::chunks ag sz vs.length ((v.cells++vs.flatMap V.cells).drop sz)=_
  rw[List.drop_left' h1,h2,aez]
  congr 1
  cases ag
  ·simp only[aaB,if_false]
   show (v.cells++vs.flatMap V.cells).headD undefV=_
   cases hv:v.cells with
   |nil=>
    have h0:sz=0:=by rw[<-h1,hv];rfl
    cases vs with
    |nil=>rfl
    |cons w vs=>
     have:w.cells=[]:=afa (by rw[h w (by simp),h0])
     simp only[ae1,this,List.nil_append]
     have:∀vs:List V,(∀v∈vs,v.cells.length=sz)->vs.flatMap V.cells=[]:=by
      intro vs hvs
      rw[List.flatMap_eq_nil_iff]
      intro x hx;exact afa (by rw[hvs x hx,h0])
     rw[this vs (fun x hx=>h x (by simp[hx]))]
   |cons a l=>rfl
  ·simp only[if_true]
   show V.agg ((v.cells++vs.flatMap V.cells).take sz)=_
   rw[List.take_left' h1]
variable (hR:RegOK R)
include hR
theorem X8 {t:Ty} {x:Den R.T t} {v:V} (h:er v=encD R t x):notRaw v=true:=by
 cases v<;>try rfl
 have h1:=fV hR t x
 rw[<-h] at h1
 simp[er,pclean] at h1
theorem GD {u:Ty} {sz len:Nat} (hsz:sz=szD R u):∀(ps:List (Nat×TV R.T)) (qs:List (Nat×V)) (xs:List (Den R.T u)) (n:Nat) (done rest:List V),unDs R u n ps=some xs->ps.map (·.1)=qs.map (·.1)->
 RlL R ρ top (ps.map (·.2)) (qs.map (·.2))->done.length=n*sz->rest.length=xs.length*sz->n+xs.length<=len->
 ∃vs:List V,gN (fun i=>if i<len then some (i*sz,sz) else none) (done++rest) qs=some (done++vs.flatMap V.cells)/\vs.length=xs.length/\vs.map er=xs.map (encD R u)/\(∀v∈vs,v.cells.length=sz/\oneCells v.cells=true)/\RlL R ρ top (xs.flatMap fun x=>(tvD R .any u x).cells) (vs.flatMap V.cells)
 | [],[],xs,n,done,rest,h,_,_,h1,h2,_=>by
   cases h
   have:rest=[]:=afa (by simpa using h2)
   subst this
   exact⟨[],by simp[gN],rfl,rfl,by simp,by rfl⟩
 | [],_::_,_,_,_,_,_,h,_,_,_,_=>by simp at h
 |_::_,[],_,_,_,_,_,h,_,_,_,_=>by simp at h
 | (i,v)::ps,(j,w)::qs,xs,n,done,rest,h,hi,hr,h1,h2,h3=>by
   simp only[aez,afg] at hi
   obtain⟨rfl,hi⟩:=hi
   obtain⟨y,ys,e,g1,g2⟩:=hr.inv_cons
   simp only[aez,afg] at e
   obtain⟨rfl,rfl⟩:=e
   unfold unDs at h
   cases hb:Nat.beq i n
   ·rw[hb] at h;cases h
   ·rw[hb,cond_true] at h
    have:=aP hb;subst this
    cases hu:unD R u v with
    |none=>simp only[hu] at h;cases h
    |some x=>
     cases hs:unDs R u (i+1) ps with
     |none=>simp only[hu,hs] at h;cases h
     |some xs'=>
      simp only[hu,hs] at h
      obtain rfl:=aeF h
      obtain⟨a1,a2,a3,a4,a5⟩:=Gj hR hu g1
      rw[<-hsz] at a4
      have hlen:rest.length=sz+xs'.length*sz:=by rw[h2,List.length_cons,afe];omega
      have q1:(done++w.cells).length=(i+1)*sz:=by rw[aaG,h1,a4,afe]
      have q2:(rest.drop sz).length=xs'.length*sz:=by rw[aex,hlen,afs]
      have q3:i+1+xs'.length<=len:=by rw[List.length_cons] at h3;omega
      obtain⟨vs,k1,k2,k3,k4,k5⟩:=GD hsz ps qs xs' (i+1) (done++w.cells) (rest.drop sz) hs hi g2 q1 q2 q3
      refine⟨w::vs,?_,by simp[k2],by simp[a1,k3],?_,?_⟩
      ·simp only[List.length_cons] at h3
       unfold gN
       simp only[if_pos (show i<len by omega)]
       rw[if_pos ⟨a4,by rw[aaG,h1,hlen];exact Nat.add_le_add_left (aeG _ _) _,X8 hR a1⟩]
       have:spliceL (done++rest) (i*sz) w.cells=done++w.cells++rest.drop sz:=by
        unfold spliceL
        rw[List.take_left' h1,a4,afL,h1,afs,aft (by omega)]
        rfl
       rw[this,k1]
       simp
      ·intro z hz
       rcases aeQ.1 hz with rfl|hz
       ·exact⟨a4,a5⟩
       ·exact k4 z hz
      ·rw[ae1,ae1]
       refine RlL.append ?_ k5
       have h1:=qm hR hu g1
       refine(iL ?_ h1).1
       cases u<;>rfl
theorem X9 {u:Ty} {sz:Nat} (hsz:sz=szD R u) (h1:(isSt u||sz==1)=true) {v:V} {x:Den R.T u} (he:er v=encD R u x) (hl:v.cells.length=sz):er (if isSt u then .agg v.cells else v.cells.headD undefV)=encD R u x:=by
 cases hs:isSt u
 ·simp only[aaB,if_false]
  have hne:∀cs,v≠ .agg cs:=by
   rintro cs rfl
   cases u<;>first| (simp[isSt] at hs;done)| (simp[er,encD] at he;done)
  have:v.cells=[v]:=by cases v<;>first|rfl|exact absurd rfl (hne _)
  rw[this];exact he
 ·simp only[if_true]
  obtain⟨l,hl'⟩:=(tO hR u x).2.2.2.1 hs
  cases v<;>first|exact he| (rw[hl'] at he;simp[er] at he)
omit hR in
theorem Nf {u:Ty}:∀(ps:List (Nat×TV R.T)) (n:Nat) (xs:List (Den R.T u)),unDs R u n ps=some xs->xs.length=ps.length:=by
 intro ps
 induction ps with
 |nil=>intro n xs h;cases h;rfl
 |cons p ps ih=>
  intro n xs h
  obtain⟨i,v⟩:=p
  unfold unDs at h
  obtain⟨_,h⟩:=aM h
  cases hu:unD R u v with
  |none=>simp only[hu] at h;cases h
  |some x=>
   cases hs:unDs R u (n+1) ps with
   |none=>simp only[hu,hs] at h;cases h
   |some xs'=>simp only[hu,hs] at h;cases h;simp[ih _ _ hs]
theorem Ya {t:TypeId} {len:Nat} {ps:List (Nat×TV R.T)} {qs:List (Nat×V)} {r:Res R} (h:bslM E R t len ps=some r) (hi:ps.map (·.1)=qs.map (·.1)) (hr:RlL R ρ top (ps.map (·.2)) (qs.map (·.2))):fI ρ top (nJ E t len qs) r:=by
 unfold bslM at h
 split at h
 ·rename_i e u sz by_ he
  obtain⟨z,e1,e2,e3,e4,e5,e6,e7,e8,e9⟩:=tT he
  ·obtain⟨hc,h⟩:=aM h
   rw[RS] at hc
   split at h
   ·rename_i xs hx
    cases h
    have hlen:xs.length=len:=by rw[Nf ps 0 xs hx];exact aP hc.2
    obtain⟨vs,k1,k2,k3,k4,_⟩:=GD hR (len:=len) e6 ps qs xs 0 [] ((List.replicate len z.cells).flatten) hx hi hr (by simp) (by simp[e9,hlen]) (by omega)
    refine⟨.lst .full (xs.map (encD R u)),?_,by unfold Rl;exact⟨.full,rfl,rfl⟩⟩
    unfold nJ
    rw[e1];simp only[Option.bind_some,e2,e4,e5]
    rw[if_pos ⟨ae2 hc.1,e9,e7,e8⟩]
    rw[List.nil_append,List.nil_append] at k1
    rw[k1]
    simp only[Option.bind_some]
    have hone:oneCells (vs.flatMap V.cells)=true:=by
     unfold oneCells
     rw[List.all_flatMap,aeP]
     intro v hv;exact(k4 v hv).2
    rw[hone,if_pos rfl,<-hlen,<-k2,GA _ _ _ (fun v hv=>(k4 v hv).1),afK]
    congr 2
    have:∀(vs:List V) (xs:List (Den R.T u)),vs.map er=xs.map (encD R u)->(∀v∈vs,v.cells.length=sz/\oneCells v.cells=true)->vs.map (er∘fun v=>if isSt u then .agg v.cells else v.cells.headD undefV)=xs.map (encD R u):=by
     intro vs
     induction vs with
     |nil=>intro xs h _;exact h
     |cons v vs ih=>
      intro xs h hk
      cases xs with
      |nil=>simp at h
      |cons x xs=>
       simp only[aez,afg] at h
       rw[aez,aez,ih xs h.2 (fun w hw=>hk w (by simp[hw]))]
       congr 1
       exact X9 hR e6 e8 h.1 (hk v (by simp)).1
    rw[this vs xs k3 k4]
   ·cases h
 ·cases h
theorem GH {u:Ty} (l:List (Den R.T u)):(l.map (encD R u)).all (fun v=>oneCells v.cells)=true:=by
 simp[List.all_map,(tO hR u _).2.1]
theorem GI {u:Ty} {ag:Bool} {y:TV R.T} {v z:V} {l:List (Den R.T u)} (h:srcM R u y=some l) (hy:Rl R ρ top y v):dY σ ag (szD R u) z v=some (l.map (encD R u))/\kQ v=false:=by
 unfold srcM at h
 split at h
 ·obtain⟨e,e2⟩:=iJ h;subst e;cases e2
  obtain⟨c',rfl,_⟩:=hy.dB
  exact⟨by show (if eF _ _=true then _ else _)=_;rw[if_pos (xK hR _)],rfl⟩
 ·cases h;rw[hy.fF];exact⟨rfl,rfl⟩
 ·rename_i s
  obtain⟨e,e2⟩:=iJ h;subst e;cases e2
  rw[hy.eH]
  exact⟨by show (if 1=1 then some (s.map fC) else none)=_;rw[if_pos rfl];exact congrArg some (M7 (R:=R) s),rfl⟩
 ·cases h
theorem Yb {t e:TypeId} {sz by_:Nat} {ag:Bool} {z:V} {c:Cap} {l ys:List V} {y:V} {loc:Option Loc} {aj:Nat} {P:Program} (h1:elemT P t=some e) (h2:szT P e=some sz) (h3:bytesT P e=some by_) (h4:isAggT P e=some ag) (h5:zeroT P e=some z)
 (h6:z.cells.length=sz) (h7:0<sz) (h8:(ag||sz==1)=true) (hy:dY σ ag sz z y=some ys) (hi:kQ y=false) (ho:ys.all (fun v=>oneCells v.cells)=true) (hr:roomOK (l.length+ys.length) by_=true) (hh:eF sz l=true):
 dD P false false σ aj loc t (.lst c l) y=match c with
  |.own n s=>if n=sz/\σ.top s=l.length then some (.lst (.own n s) (l++ys),σ.aI s (l.length+ys.length)) else none
  |.nil|.full=>some (.lst (.own sz aj) (l++ys),σ.aI aj (l.length+ys.length))
  |_=>none:=by
 unfold dD
 simp only[h1,h2,h3,h4,h5,Option.bind_some,hi,hy,ho,if_true]
 rw[if_pos ⟨trivial,h6,h7,h8⟩]
 simp only[hr,hh,and_self,if_true]
 cases c<;>rfl
theorem Yc {d:Option Nat} {t u:TypeId} {x y:TV R.T} {v w:V} {r:Res R} {aj:Nat} {loc:Option Loc} {o:Oper} (h:appM E R d t u x y st=some r) (hx:Rl R ρ σ.top x v) (hy:Rl R ρ σ.top y w) (hi:ak ρ aj st fr σ)
 (ho:∀y σ',dD E.P false false σ aj loc t v w=some (y,σ')->eD E fr σ aj o y σ'):gL E st ρ aj fr σ o r:=by
 unfold appM at h
 split at h
 ·rename_i d
  split at h
  ·rename_i e τ sz by_ he
   obtain⟨z,e1,e2,e3,e4,e5,e6,e7,e8,e9⟩:=tT he
   ·obtain⟨hss,h⟩:=aM h
    split at h
    ·rename_i tk l l' hd hs
     cases h
     intro hroom
     subst e6
     obtain⟨g1,g2⟩:=GI hR (ag:=isSt τ) (z:=z) (σ:=σ) hs hy
     have hlen:roomOK ((l.map (encD R τ)).length+(l'.map (encD R τ)).length) by_=true:=by rw[ab3,ab3];exact hroom
     have hap:∀c,dD E.P false false σ aj loc t (.lst c (l.map (encD R τ))) w=_:=fun c=>Yb hR (σ:=σ) (c:=c) (loc:=loc) (aj:=aj) e1 e2 e3 e4 e5 e9 e7 e8 g1 g2 (GH hR l') hlen (xK hR l)
     have fresh:∀(c:Cap),(c= .nil\/c= .full)->v= .lst c (l.map (encD R τ))->∃x σ' ρ',eD E fr σ aj o x σ'/\ak ρ' (aj+1) (st.wk tk) fr σ'/\σ'.next=σ.next/\Rl R ρ' σ'.top (.lst (.own tk) τ (l++l')) x/\∀p,ND E o p->ay true p st ρ σ (st.wk tk) ρ' σ':=by
      intro c hc hv
      subst hv
      have:=hap c
      refine⟨.lst (.own (szD R τ) aj) (l.map (encD R τ)++l'.map (encD R τ)),σ.aI aj ((l.map (encD R τ)).length+(l'.map (encD R τ)).length),ρ.bK tk aj,ho _ _ (by rw[this];rcases hc with rfl|rfl<;>rfl),?_,rfl,?_,?_⟩
      ·exact hi.wk tk aj _ (aeB _) (afw _) hi.nx (fun u _ hu=>by have:=hi.lt u _ hu;omega)
      ·unfold Rl
       exact⟨_,by rw[afj],.inr (.inr ⟨aj,rfl,by simp[au.bK,upd],by rw[sU];simp⟩)⟩
      ·exact fun p _=>ay.wk hi.nx
     unfold dstM at hd
     split at hd
     ·rename_i l0
      split at hd
      ·rename_i l1 hl1
       cases hd
       obtain⟨e,e2⟩:=iJ hl1;subst e;cases e2
       obtain⟨c',rfl,hc'⟩:=hx.dB
       exact fresh c' (.inl hc') rfl
      ·cases hd
     ·rename_i l0
      split at hd
      ·rename_i l1 hl1
       cases hd
       obtain⟨e,e2⟩:=iJ hl1;subst e;cases e2
       obtain⟨c',rfl,hc'⟩:=hx.dB
       exact fresh c' (.inr hc') rfl
      ·cases hd
     ·rename_i tk' τ' l0
      split at hd
      ·rename_i l1 hl1
       cases hd
       obtain⟨e,e2⟩:=iJ hl1;subst e;cases e2
       obtain⟨c',rfl,hc'⟩:=hx.dB
       rcases hc' with hc'|hc'| ⟨s,hc',ht,hl⟩
       ·exact fresh c' (.inl hc') rfl
       ·exact fresh c' (.inr hc') rfl
       ·subst hc'
        have:=hap (.own (szD R τ') s)
        dsimp only at this
        rw[if_pos ⟨rfl,by rw[ab3];exact hl⟩] at this
        refine⟨_,_,ρ.bK tk s,ho _ _ this,?_,rfl,?_,?_⟩
        ·exact hi.wk tk s _ (aeB _) (by have:=hi.lt tk s ht;omega) (hi.ge tk s ht) (fun u hu h'=>hu (hi.inj u tk s h' ht))
        ·unfold Rl
         exact⟨_,by rw[afj],.inr (.inr ⟨s,rfl,by simp[au.bK,upd],by rw[sU];simp⟩)⟩
        ·exact fun p _=>ay.wk (hi.ge tk s ht)
      ·cases hd
     ·cases hd
      rw[hx.fF] at fresh
      have hx':=hx.fF
      subst hx'
      exact fresh .nil (.inl rfl) rfl
     ·cases hd
    ·cases h
  ·cases h
 ·cases h
omit hR in
theorem Yd {t:TypeId} {x:TV R.T} {v:V} {n:Nat} (h:lenM E t x st=some n) (hx:Rl R ρ σ.top x v) (hi:ak ρ b st fr σ):iW E σ t v=some n:=by
 unfold lenM at h
 unfold iW
 split at h
 ·rename_i hu;cases h;obtain⟨c',rfl,_⟩:=hx.dB;rw[hu];simp
 ·rename_i hu;cases h;rw[hx.fF,hu];rfl
 ·rename_i o t hu
  split at h
  ·rename_i t' l hl
   cases h
   have h1:=(hi.rd hl).1
   rcases hx.mM with ⟨s,_,rfl⟩| ⟨h0,rfl|rfl⟩
   ·rw[hu];dsimp only;rw[h1]
   ·rw[hu];dsimp only;rw[h1,h0];rfl
   ·rw[hu];dsimp only;rw[h1,h0];rfl
  ·cases h
 ·rename_i o' t' a' b' hu
  cases h
  rcases hx.nW with ⟨_,_,_,⟨s,cp,_,_,rfl⟩| ⟨e,c,rfl⟩⟩
  ·rw[hu]
  ·rw[hu];dsimp only;rw[e,Int.sub_self];rfl
 ·rename_i hu;cases h;rw[hx.eH,hu]
 ·rename_i o hu
  split at h
  ·rename_i k e m hl
   cases h
   obtain⟨s,h1,rfl⟩:=hx.mK
   obtain⟨s',h2,h3⟩:=hi.rd hl
   rw[h1] at h2;cases h2
   rw[hu];dsimp only;rw[h3];simp
  ·cases h
 ·rename_i hu;cases h;rw[hx.nV,hu];simp
 ·rename_i hu;cases h;unfold Rl at hx;subst hx;rw[hu]
 ·rename_i hu;cases h;rw[hu]
 ·cases h
omit hR in
theorem GJ (mx:Bool):∀{l:List (TV R.T)} {x y:TV R.T} {v:V} {k:List V},mmM mx x l=some y->Rl R ρ top x v->RlL R ρ top l k->∃w,minMaxV mx v k=some w/\Rl R ρ top y w
 | [],x,y,v,k,h,hx,hl=>by
   rw[hl.inv_nil]
   unfold mmM at h;cases h
   exact⟨v,by cases v<;>rfl,hx⟩
 |z::l,x,y,v,k,h,hx,hl=>by
  obtain⟨w,ws,rfl,h1,h2⟩:=hl.inv_cons
  unfold mmM at h
  split at h
  ·rename_i hz;cases hz
  ·rename_i k a k' b l' hz
   simp only[afg] at hz
   obtain⟨rfl,rfl⟩:=hz
   split at h
   ·rename_i e;subst e
    rw[hx.inv_int,h1.inv_int]
    unfold minMaxV
    rw[if_pos rfl]
    refine GJ mx h ?_ h2
    unfold Rl
    cases mx<;>rfl
   ·cases h
  ·cases h
omit hR in
theorem Ng (c:Cp):∀(l:List Ty) (p:PayT R.T l),(tvs R c l p).length=l.length
 | [],_=>rfl
 | [_],_=>rfl
 |_::u::l,p=>by show (tvs R c (u::l) p.2).length+1=_;rw[Ng c (u::l)];rfl
omit hR in
theorem oq (c:Cp) (t:Ty) (x:Den R.T t):(tvD R c t x).cells.length=szD R t:=by
 cases t with
 |st n=>exact Ng c _ _
 |_=>rfl
omit hR in
theorem GK {α β:Type} {f:α->List β} {sz:Nat} (hf:∀x,(f x).length=sz):∀(n:Nat) (l:List α),(l.flatMap f).drop (n*sz)=(l.drop n).flatMap f
 |0,l=>by simp
 |n+1,[]=>by simp
 |n+1,x::l=>by
  rw[ae1,List.drop_succ_cons,<-GK hf n l,afe,Nat.add_comm,<-List.drop_drop,<-hf x,List.drop_left]
omit hR in
theorem GL {α β:Type} {f:α->List β} {sz:Nat} (hf:∀x,(f x).length=sz):∀(n:Nat) (l:List α),(l.flatMap f).take (n*sz)=(l.take n).flatMap f
 |0,l=>by simp
 |n+1,[]=>by simp
 |n+1,x::l=>by
  rw[ae1,List.take_succ_cons,ae1,<-GL hf n l,afe,Nat.add_comm,<-hf x,List.take_length_add_append]
omit hR in
theorem Nh {α:Type} {l:List α} {a b:Int} (h0:0<=a) (h1:a<=b):subI l a b=(l.drop a.toNat).take (b-a).toNat:=by
 unfold subI
 rw[List.take_drop]
 congr 2;omega
omit hR in
theorem Ye {t:Ty} {l:List (Den R.T t)} {cs:List V} {ρ:au} {top:Nat->Nat} {a b:Int} (h0:0<=a) (h1:a<=b) (h:RlL R ρ top (l.flatMap fun x=>(tvD R .any t x).cells) cs):RlL R ρ top ((subI l a b).flatMap fun x=>(tvD R .any t x).cells) ((cs.drop (a.toNat*szD R t)).take ((b-a).toNat*szD R t)):=by
 rw[Nh h0 h1,<-GL (fun x=>oq .any t x),<-GK (fun x=>oq .any t x)]
 exact(h.drop _).take _
omit hR in
theorem ou (t:Ty):∀l:List (Den R.T t),(l.flatMap fun x=>(tvD R .any t x).cells).length=l.length*szD R t
 | []=>by simp
 |x::l=>by rw[ae1,aaG,oq,ou t l,List.length_cons,afe];omega
omit hR in
theorem Ni {α:Type}:∀{l:List α} {i:Nat} {x:α},l[i]? =some x->∃a b,l=a++x::b/\a.length=i
 | [],_,_,h=>by simp at h
 |y::l,0,x,h=>by simp at h;subst h;exact⟨[],l,rfl,rfl⟩
 |y::l,i+1,x,h=>by
  obtain⟨a,b,rfl,hl⟩:=Ni (l:=l) (i:=i) (by simpa using h)
  exact⟨y::a,b,rfl,by simp[hl]⟩
omit hR in
theorem Yf {α:Type} {l:List α} {i:Int} {x:α} (h:idxL l i=some x):∃a b,l=a++x::b/\a.length=i.toNat/\0<=i:=by
 unfold idxL at h
 split at h
 ·rename_i hi
  obtain⟨a,b,h1,h2⟩:=Ni h
  exact⟨a,b,h1,h2,hi.1⟩
 ·cases h
omit hR in
theorem Yg {ag:Bool} {n off:Nat} {pre el post:List (TV R.T)} {v:TV R.T} (h:partM ag n el off=some v):partM ag n (pre++el++post) (pre.length+off)=some v:=by
 cases ag with
 |true=>
  have h':(bif Nat.ble (off+n) el.length then some (TV.agg ((el.drop off).take n)) else none)=some v:=h
  obtain⟨hb,h'⟩:=aM h'
  have hle:=ae2 hb
  show (bif Nat.ble (pre.length+off+n) (pre++el++post).length then some (TV.agg (((pre++el++post).drop (pre.length+off)).take n)) else none)=some v
  have hb':Nat.ble (pre.length+off+n) (pre++el++post).length=true:=Nat.ble_eq_true_of_le (by simp;omega)
  rw[hb',cond_true,<-h']
  congr 2
  have e1:(pre++el++post).drop (pre.length+off)=(el++post).drop off:=by
   rw[aeC,afL,aft (by omega)]
   simp
  rw[e1,afL,List.take_append]
  have e2:n-(el.drop off).length=0:=by simp;omega
  rw[e2];simp
 |false=>
  have h':el[off]? =some v:=h
  show (pre++el++post)[pre.length+off]? =some v
  have hlt:off<el.length:=by rw[afn] at h';exact h'.1
  rw[aeC,List.getElem?_append_right (by omega),afs,afS hlt]
  exact h'
omit hR in
theorem Yh {t:TypeId} {off:Nat} {pre el post:List (TV R.T)} {v:TV R.T} (h:ldM E t el off=some v):ldM E t (pre++el++post) (pre.length+off)=some v:=by
 unfold ldM at h⊢
 cases h1:isAggT E.P t with
 |none=>simp only[h1] at h;cases h
 |some a=>
  cases h2:szT E.P t with
  |none=>simp only[h1,h2] at h;cases h
  |some n=>simp only[h1,h2] at h⊢;exact Yg h
omit hR in
theorem Yi {t:TypeId} {off:Nat} {cs cs':List (TV R.T)} (hl:cs.length=cs'.length) (h:(ldM E t cs off).isSome=true):∃v,ldM E t cs' off=some v:=by
 unfold ldM at h⊢
 cases h1:isAggT E.P t with
 |none=>simp only[h1] at h;cases h
 |some a=>
  cases h2:szT E.P t with
  |none=>simp only[h1,h2] at h;cases h
  |some n=>
   simp only[h1,h2] at h⊢
   cases a with
   |true=>
    have h':(bif Nat.ble (off+n) cs.length then some (TV.agg ((cs.drop off).take n)) else none).isSome=true:=h
    cases hb:Nat.ble (off+n) cs.length
    ·rw[hb] at h';cases h'
    ·exact⟨.agg ((cs'.drop off).take n),by show (bif Nat.ble (off+n) cs'.length then _ else _)=_;rw[<-hl,hb];rfl⟩
   |false=>
    have h':cs[off]?.isSome=true:=h
    have hlt:off<cs'.length:=by rw[<-hl];simpa using h'
    exact⟨cs'[off],afb hlt⟩
omit hR in
theorem Nj {o s:Nat} {τ:Ty} {l:List (Den R.T τ)} {i:Int} {y:Den R.T τ} (hO:aR ρ σ o (.arr τ l)) (hs:ρ.ob o=some s) (hy:idxL l i=some y):
 ∃a b cs,l=a++y::b/\a.length=i.toNat/\σ.cellsAt (ρ.om.lc o) s=some cs/\RlL R ρ σ.top ((a.flatMap fun x=>(tvD R .any τ x).cells)++(tvD R .any τ y).cells++b.flatMap fun x=>(tvD R .any τ x).cells) cs/\(a.flatMap fun x=>(tvD R .any τ x).cells).length=i.toNat*szD R τ:=by
 obtain⟨a,b,rfl,h1,h2⟩:=Yf hy
 rcases hO.2 with h| ⟨s',cs,h3,h4,h5⟩
 ·exact absurd h.1 (by simp)
 ·rw[hs] at h3;cases h3
  refine⟨a,b,cs,rfl,h1,h4,?_,by rw[ou,h1]⟩
  rw[List.flatMap_append,ae1] at h5
  rw[aeC];exact h5
omit hR in
theorem Yj {t:TypeId} {o s off:Nat} {τ:Ty} {i:Int} {ob:Ob R.T} {r:Res R} (h:elLd E R t τ i off ob=some r) (hO:aR ρ σ o ob) (hs:ρ.ob o=some s):∃(l:List (Den R.T τ)) (f:Den R.T τ->TV R.T),r= .p (Den R.T τ) (dfl R τ) (idxL l i) f/\
 ∀y,idxL l i=some y->∃cs w,σ.cellsAt (ρ.om.lc o) s=some cs/\ldT E.P t cs (i.toNat*szD R τ+off)=some w/\Rl R ρ σ.top (f y) w:=by
 unfold elLd at h
 split at h
 ·rename_i τ' l0
  split at h
  ·rename_i l1 hl
   obtain⟨e,e2⟩:=iJ hl;subst e;cases e2
   obtain⟨hb,h⟩:=aM h
   cases h
   refine⟨l0,_,rfl,fun y hy=>?_⟩
   obtain⟨a,b,cs,h1,h2,h3,h4,h5⟩:=Nj hO hs hy
   obtain⟨v,hv⟩:=Yi (cs':=(tvD R .any τ' y).cells) (by rw[oq,oq]) hb
   have:=Yh (pre:=a.flatMap fun x=>(tvD R .any τ' x).cells) (post:=b.flatMap fun x=>(tvD R .any τ' x).cells) hv
   rw[h5] at this
   obtain⟨w,hw,hr⟩:=mQ h4 this
   exact⟨cs,w,h3,hw,by rw[hv];exact hr⟩
  ·cases h
 ·cases h
theorem Yk {τ:Ty} {cs:List (TV R.T)} {x:Den R.T τ} {vs:List V} (h:unC R τ cs=some x) (hr:RlL R ρ top cs vs):RlL R ρ top (tvD R .any τ x).cells vs:=by
 have one:∀(t:Ty) (x:Den R.T t),eX t=true->un1 R t (hd1 R cs)=some x->RlL R ρ top [tv1 R .any t x] vs:=by
  intro t x ht h
  cases cs with
  |nil=>cases t<;>cases h
  |cons c cs=>
   cases cs with
   |nil=>
    obtain⟨v,l,rfl,h1,h2⟩:=hr.inv_cons
    rw[h2.inv_nil]
    exact .cons' (ql hR h h1) rfl
   |cons c' cs=>cases t<;>cases h
 cases τ with
 |st n=>
  have:=qm hR (t:=.st n) (show unD R (.st n) (.agg cs)=some x from h) (v:=.agg vs) (by unfold Rl;exact⟨vs,rfl,hr⟩)
  obtain⟨l,e,hl⟩:=Rl.dL this
  cases e;exact hl
 |int k=>exact one (.int k) x rfl h
 |bool=>exact one .bool x rfl h
 |str=>exact one .str x rfl h
 |slice t=>exact one (.slice t) x rfl h
omit hR in
theorem Yl {α:Type} (pre el post vs:List α) (off:Nat) (h:off+vs.length<=el.length):(pre++el++post).take (pre.length+off)++vs++(pre++el++post).drop (pre.length+off+vs.length)=pre++(el.take off++vs++el.drop (off+vs.length))++post:=by
 have e1:(pre++el++post).take (pre.length+off)=pre++el.take off:=by
  rw[aeC,List.take_append,afm (by omega),afs,List.take_append,Nat.sub_eq_zero_of_le (by omega)]
  simp
 have e2:(pre++el++post).drop (pre.length+off+vs.length)=el.drop (off+vs.length)++post:=by
  rw[aeC,afL,aft (by omega),show pre.length+off+vs.length-pre.length=off+vs.length by omega,afL,Nat.sub_eq_zero_of_le (by omega)]
  simp
 rw[e1,e2]
 simp
theorem Ym {o s off:Nat} {τ:Ty} {i:Int} {l:List (Den R.T τ)} {y y':Den R.T τ} {vc:List (TV R.T)} {vl:List V} (hO:aR ρ σ o (.arr τ l)) (hs:ρ.ob o=some s) (hy:idxL l i=some y) (hv:RlL R ρ σ.top vc vl) (hle:off+vc.length<=szD R τ)
 (hu:unC R τ (spliceM (tvD R .any τ y).cells off vc)=some y'):∃cs,σ.cellsAt (ρ.om.lc o) s=some cs/\i.toNat*szD R τ+off+vl.length<=cs.length/\RlL R ρ σ.top ((setL l i y').flatMap fun x=>(tvD R .any τ x).cells) (spliceL cs (i.toNat*szD R τ+off) vl)/\(setL l i y').length=l.length:=by
 obtain⟨a,b,cs,rfl,h2,h3,h4,h5⟩:=Nj hO hs hy
 obtain⟨p1,post,rfl,g1,g2⟩:=h4.split
 obtain⟨pre,el,rfl,g3,g4⟩:=g1.split
 have l1:pre.length=i.toNat*szD R τ:=by rw[g3.length,h5]
 have l2:el.length=szD R τ:=by rw[g4.length,oq]
 have l3:=hv.length
 refine⟨_,h3,?_,?_,?_⟩
 ·rw[aaG,aaG];omega
 ·have e:setL (a++y::b) i y'=a++y'::b:=by
   unfold setL
   rw[<-h2,List.set_append_right _ _ (iP _),Nat.sub_self];rfl
  rw[e,List.flatMap_append,ae1,<-aeC]
  have e2:spliceL (pre++el++post) (i.toNat*szD R τ+off) vl=pre++spliceL el off vl++post:=by
   unfold spliceL
   rw[<-l1];exact Yl pre el post vl off (by omega)
  rw[e2]
  exact(g3.append (Yk hR hu (Gu off g4 hv))).append g2
 ·unfold setL;rw[List.length_set]
theorem Yn (τ:Ty) (x:Den R.T τ):RlL R ρ top (tvD R .any τ x).cells (encD R τ x).cells:=by
 refine(iL ?_ (Bn hR .any (.inl rfl) τ x)).1
 cases τ<;>rfl
theorem tV (τ:Ty):∀l:List (Den R.T τ),RlL R ρ top (l.flatMap fun x=>(tvD R .any τ x).cells) ((l.map (encD R τ)).flatMap V.cells)
 | []=>rfl
 |x::l=>by
  rw[aez,ae1,ae1]
  exact(Yn hR τ x).append (tV τ l)
theorem Yo {t e:TypeId} {sz by_:Nat} {ag:Bool} {z:V} {ys:List V} {x y:V} {loc:Option Loc} {aj:Nat} {P:Program} (h1:elemT P t=some e) (h2:szT P e=some sz) (h3:bytesT P e=some by_) (h4:isAggT P e=some ag) (h5:zeroT P e=some z)
 (h6:z.cells.length=sz) (h7:0<sz) (h8:(ag||sz==1)=true) (hy:dY σ ag sz z y=some ys) (hi:kQ y=false) (ho:ys.all (fun v=>oneCells v.cells)=true):
 dD P true false σ aj loc t x y=match x with
  |.lst c l=>if roomOK (l.length+ys.length) by_=true/\eF sz l=true then
     match c with
     |.nil=>loc.map fun loc=>(.vw loc aj 0 (l.length+ys.length) (l.length+ys.length) sz ag,σ.setObj loc aj (.cells ((l++ys).flatMap V.cells)))
     |.full=>if ys.isEmpty then some (.lst .full l,σ) else loc.map fun loc=>(.vw loc aj 0 (l.length+ys.length) (l.length+ys.length) sz ag,σ.setObj loc aj (.cells ((l++ys).flatMap V.cells)))
     |_=>none else none
  |.vw bZ s off len cap aA _=>
   if roomOK (len+ys.length) by_=true/\off=0/\aA=sz then
    loc.bind fun loc=>(σ.cellsAt bZ s).bind fun cs=>
     if len+ys.length<=cap then
      if (len+ys.length)*sz<=cs.length then
       some (.vw bZ s 0 (len+ys.length) cap sz ag,σ.setObj bZ s (.cells (spliceL cs (len*sz) (ys.flatMap V.cells))))
      else none
     else if len*sz<=cs.length then
      some (.vw loc aj 0 (len+ys.length) (len+ys.length) sz ag,(σ.aX bZ).setObj loc aj (.cells (cs.take (len*sz)++ys.flatMap V.cells)))
     else none
   else none
  |_=>none:=by
 unfold dD
 simp only[h1,h2,h3,h4,h5,Option.bind_some,hi,hy,ho,if_true]
 rw[if_pos ⟨trivial,h6,h7,h8⟩]
 cases x<;>try rfl
 ·rename_i c l
  cases c<;>rfl
 ·simp only[true_and]
omit hR in
theorem ay.qj {o q s n:Nat} {x:Ob R.T} {a:AObj} (hne:q≠o):ay true q st ρ σ (st.new o x) (ρ.ku o s n) (σ.setObj (ρ.om.lc o) s a):=⟨(Gm q hne).1,(Gm q hne).2,rfl,iP _,⟨fun _ _=>rfl,fun _ _=>rfl⟩,fun _ _ hL=>Gs hL,(ay.new (nr:=true) (ρ:=ρ) (s:=s) (a:=a) hne).ro⟩
omit hR in
theorem ay.del {o q:Nat} {y:Ob R.T} (hl:look st.ob o=some y) (hy:isRo y=false):ay true q st ρ σ (st.del o) ρ (σ.aX (ρ.om.lc o)):=⟨rfl,rfl,rfl,iP _,⟨fun _ _=>rfl,fun _ _=>rfl⟩,fun _ _ hL=>XI hL,fun hr=>by
 have hne:q≠o:=by rintro rfl;rw[hr y hl] at hy;cases hy
 refine⟨fun z hz=>?_,fun s'=>?_⟩
 ·have hz':look (delF o st.ob) q=some z:=hz
  rw[eY hne] at hz'
  exact hr z hz'
 ·unfold Sig.cellsAt Sig.bg;rw[Mt σ hne];exact⟨rfl,rfl⟩⟩
omit hR in
theorem ay.del' {o q:Nat} {y:Ob R.T} (hl:look st.ob o=some y) (hy:isRo y=false):ay true q st ρ σ (st.del o) ρ σ:=⟨rfl,rfl,rfl,iP _,⟨fun _ _=>rfl,fun _ _=>rfl⟩,fun _ _ _=>rfl,fun hr=>by
 have hne:q≠o:=by rintro rfl;rw[hr y hl] at hy;cases hy
 refine⟨fun z hz=>?_,fun s'=>⟨rfl,rfl⟩⟩
 have hz':look (delF o st.ob) q=some z:=hz
 rw[eY hne] at hz'
 exact hr z hz'⟩
omit hR in
theorem Bz {α:Type} {p:Nat}:∀l:List (Nat×α),look (delF p l) p=none
 | []=>rfl
 | (j,x)::l=>by
   unfold delF
   cases hj:Nat.beq j p
   ·show (bif Nat.beq j p then some x else look (delF p l) p)=none
    rw[hj];exact Bz l
   ·exact Bz l
omit hR in
theorem ak.del' (h:ak ρ b st fr σ) (o:Nat):ak ρ b (st.del o) fr σ:={h with
 ob:=fun p y hy=>by
  by_cases e:p=o
  ·subst e
   have:look (delF p st.ob) p=some y:=hy
   rw[Bz] at this;cases this
  ·have hy':look (delF o st.ob) p=some y:=hy
   rw[eY e] at hy'
   exact h.ob p y hy'
 fr:=h.fr}
omit hR in
theorem ow {d0 d aj:Nat} {τ:Ty} {l:List (Den R.T τ)} {L:List V} {st0:MS R.T} {σ0:Sig} {o:Oper} {v:V} {σ1:Sig} (hd:o.dst=some d0) (hcd:d=d0\/d=E.cn d0) (hi:ak ρ (aj+1) st0 fr σ0) (hk:∀p,ay true p st ρ σ st0 ρ σ0) (hn:σ0.next=σ.next) (hL:RlL R ρ σ0.top (l.flatMap fun x=>(tvD R .any τ x).cells) L)
 (hs:eD E fr σ aj o v σ1) (hv:v= .vw (ρ.om.lc d) aj 0 l.length l.length (szD R τ) (isSt τ)) (h1:σ1=σ0.setObj (ρ.om.lc d) aj (.cells L)):∃x σ' ρ',eD E fr σ aj o x σ'/\ak ρ' (aj+1) (st0.new d (.arr τ l)) fr σ'/\σ'.next=σ.next/\Rl R ρ' σ'.top (.vw d τ) x/\∀p,ND E o p->ay true p st ρ σ (st0.new d (.arr τ l)) ρ' σ':=by
 subst hv;subst h1
 refine⟨_,_,ρ.ku d aj l.length,hs,hi.qj d aj l.length ⟨(jM (ρ:=ρ.dI d aj)).symm,.inr ⟨aj,L,fH (ρ:=ρ),cells_eq _ _ _ _,jL l L hL⟩⟩,hn,?_,fun p hp=>?_⟩
 ·unfold Rl
  exact .inl ⟨aj,fH (ρ:=ρ),by rw[show (ρ.ku d aj l.length).ln d=l.length from jM (ρ:=ρ.dI d aj)];rfl⟩
 ·have hne:p≠d:=by
   rcases hcd with e|e
   ·exact fun e2=>hp.1 (by rw[hd,e2,e])
   ·exact fun e2=>hp.2 _ hd (by rw[e2,e])
  exact(hk p).trans (ay.qj hne)
theorem Yp {d:Option Nat} {t:TypeId} {len:Nat} {ps:List (Nat×TV R.T)} {qs:List (Nat×V)} {r:Res R} {aj:Nat} {o:Oper} (h:bslO E R d t len ps st=some r) (hi:ps.map (·.1)=qs.map (·.1)) (hr:RlL R ρ σ.top (ps.map (·.2)) (qs.map (·.2))) (him:ak ρ aj st fr σ) (hd:o.dst=d)
 (ho:∀y σ',nK E σ aj (d.map fun t=>(fr.d,E.cn t)) t len qs=some (y,σ')->eD E fr σ aj o y σ'):gL E st ρ aj fr σ o r:=by
 unfold bslO at h
 split at h
 ·rename_i d e u sz by_ he
  obtain⟨z,e1,e2,e3,e4,e5,e6,e7,e8,e9⟩:=tT he
  obtain⟨hc,h⟩:=aM h
  rw[RS] at hc
  split at h
  ·rename_i xs hx
   cases hbl:Nat.ble F0 (E.cn d)
   case true=>rw[hbl] at h;cases h
   rw[hbl,cond_false] at h
   cases h
   have hcn:E.cn d<F0:=by
    have:=mt Nat.ble_eq_true_of_le (by rw[hbl];simp)
    omega
   rw[Option.map_some,show (fr.d,E.cn d)=ρ.om.lc (E.cn d) by rw[him.d,Cx.xB _ hcn]] at ho
   have hlen:xs.length=len:=by rw[Nf ps 0 xs hx];exact aP hc.2
   obtain⟨vs,k1,k2,k3,k4,k5⟩:=GD hR (len:=len) e6 ps qs xs 0 [] ((List.replicate len z.cells).flatten) hx hi hr (by simp) (by simp[e9,hlen]) (by omega)
   rw[List.nil_append,List.nil_append] at k1
   have key:nK E σ aj (some (ρ.om.lc (E.cn d))) t len qs=some (.vw (ρ.om.lc (E.cn d)) aj 0 len len sz (isSt u),σ.setObj (ρ.om.lc (E.cn d)) aj (.cells (vs.flatMap V.cells))):=by
    unfold nK
    rw[e1];simp only[Option.bind_some,e2,e4,e5]
    rw[if_pos ⟨ae2 hc.1,e9,e7⟩,k1]
    rfl
   exact ow (σ0:=σ) hd (.inr rfl) (him.le (aeB aj)) (fun q=>.refl) rfl k5 (ho _ _ key) (by rw[hlen,e6]) rfl
  ·cases h
 ·cases h
theorem Yq {d:Option Nat} {t u:TypeId} {x y:TV R.T} {v w:V} {r:Res R} {aj:Nat} {o:Oper} (h:appOM E R d t u x y st=some r) (hx:Rl R ρ σ.top x v) (hy:Rl R ρ σ.top y w) (hi:ak ρ aj st fr σ) (hd:o.dst=d)
 (ho:∀y σ',dD E.P true false σ aj (d.map fun t=>(fr.d,E.cn t)) t v w=some (y,σ')->eD E fr σ aj o y σ'):gL E st ρ aj fr σ o r:=by
 have hi1:=hi.le (aeB aj)
 unfold appOM at h
 split at h
 ·rename_i d
  cases hbl:Nat.ble F0 (E.cn d)
  case true=>rw[hbl] at h;cases h
  rw[hbl,cond_false] at h
  have hcn:E.cn d<F0:=by
   have:=mt Nat.ble_eq_true_of_le (by rw[hbl];simp)
   omega
  rw[Option.map_some,show (fr.d,E.cn d)=ρ.om.lc (E.cn d) by rw[hi.d,Cx.xB _ hcn]] at ho
  split at h
  ·rename_i e τ sz by_ he
   obtain⟨z,e1,e2,e3,e4,e5,e6,e7,e8,e9⟩:=tT he
   obtain⟨hss,h⟩:=aM h
   split at h
   ·rename_i l' hs
    subst e6
    obtain⟨g1,g2⟩:=GI hR (ag:=isSt τ) (z:=z) (σ:=σ) hs hy
    have hap:=fun x=>Yo hR (σ:=σ) (x:=x) (loc:=some (ρ.om.lc (E.cn d))) (aj:=aj) e1 e2 e3 e4 e5 e9 e7 e8 g1 g2 (GH hR l')
    split at h
    ·rename_i p τ0 _
     split at h
     ·rename_i e0
      subst e0
      split at h
      ·rename_i τ' l0 hl
       split at h
       ·rename_i l2 hl2
        obtain⟨e,e2'⟩:=iJ hl2;subst e;cases e2'
        have ne:∀(a:Den R.T τ') (l1:List (Den R.T τ')),l'=a::l1->gL E st ρ aj fr σ o (.wc (roomOK (l0.length+(a::l1).length) by_) (.vw (E.cn d) τ') ((st.del p).new (E.cn d) (.arr τ' (l0++a::l1)))):=by
         intro a l1 el
         subst el
         intro hroom
         have hO:=hi.ob _ _ hl
         have hlen:l0.length=ρ.ln p:=hO.1
         have hnr:isRo (Ob.arr τ' l0)=false:=rfl
         have hne:¬((a::l1).map (encD R τ')).isEmpty=true:=by simp
         rcases hx.mM with ⟨s,k1,rfl⟩| ⟨k1,k2⟩
         ·rcases hO.2 with hO2| ⟨s',cs,k3,k4,k5⟩
          ·rw[k1] at hO2;exact absurd hO2.2 (by simp)
          ·rw[k1] at k3;cases k3
           have:=hap (.vw (ρ.om.lc p) s 0 (ρ.ln p) (ρ.ln p) (szD R τ') (isSt τ'))
           dsimp only at this
           have hlc:cs.length=l0.length*szD R τ':=by rw[k5.length,ou]
           rw[if_pos ⟨by rw[ab3,<-hlen];exact hroom,rfl,rfl⟩] at this
           simp only[Option.bind_some,k4] at this
           rw[if_neg (by rw[ab3,List.length_cons];omega),if_pos (by rw[hlc,hlen];exact iP _)] at this
           refine ow (σ0:=σ.aX (ρ.om.lc p)) (L:=cs.take (ρ.ln p*szD R τ')++((a::l1).map (encD R τ')).flatMap V.cells) hd (.inr rfl) (hi1.del p) (fun q=>ay.del hl hnr) rfl ?_ (ho _ _ this) ?_ rfl
           ·rw[List.flatMap_append,afm (by rw[hlc,hlen];exact iP _)]
            exact RlL.append k5 (tV hR _ _)
           ·rw[ab3,aaG,hlen]
         ·have hl0:l0=[]:=afa (by omega)
          subst hl0
          have hroom':roomOK (([]:List V).length+((a::l1).map (encD R τ')).length) by_=true/\eF (szD R τ') ([]:List V)=true:=⟨by rw[ab3];exact hroom,rfl⟩
          rcases k2 with rfl|rfl
          ·have:=hap (.lst .nil [])
           dsimp only at this
           rw[if_pos hroom'] at this
           refine ow (σ0:=σ) hd (.inr rfl) (hi1.del' p) (fun q=>ay.del' hl hnr) rfl (tV hR _ _) (ho _ _ this) ?_ rfl
           simp
          ·have:=hap (.lst .full [])
           dsimp only at this
           rw[if_pos hroom',if_neg hne] at this
           refine ow (σ0:=σ) hd (.inr rfl) (hi1.del' p) (fun q=>ay.del' hl hnr) rfl (tV hR _ _) (ho _ _ this) ?_ rfl
           simp
        cases hpc:Nat.beq p (E.cn d) with
        |true=>
         rw[hpc,cond_true] at h
         cases h
         cases l' with
         |cons a l1=>exact ne a l1 rfl
         |nil=>
          have hp:=aP hpc
          intro hroom
          have hO:=hi.ob _ _ hl
          have hlen:l0.length=ρ.ln p:=hO.1
          have hnr:isRo (Ob.arr τ' l0)=false:=rfl
          have hroom':∀(k:Nat),k=l0.length->roomOK (k+(([]:List (Den R.T τ')).map (encD R τ')).length) by_=true:=fun k hk=>by rw[hk];exact hroom
          rcases hx.mM with ⟨s,k1,rfl⟩| ⟨k1,k2⟩
          ·rcases hO.2 with hO2| ⟨s',cs,k3,k4,k5⟩
           ·rw[k1] at hO2;exact absurd hO2.2 (by simp)
           ·rw[k1] at k3;cases k3
            have:=hap (.vw (ρ.om.lc p) s 0 (ρ.ln p) (ρ.ln p) (szD R τ') (isSt τ'))
            dsimp only at this
            have hlc:cs.length=l0.length*szD R τ':=by rw[k5.length,ou]
            rw[if_pos ⟨hroom' _ hlen.symm,rfl,rfl⟩] at this
            simp only[Option.bind_some,k4,List.map_nil,List.length_nil,Nat.add_zero] at this
            rw[if_pos (iP _),if_pos (by rw[hlc,hlen];exact iP _)] at this
            have hsp:spliceL cs (ρ.ln p*szD R τ') (([]:List V).flatMap V.cells)=cs:=by
             unfold spliceL
             simp
            rw[hsp] at this
            rw[aeX,<-hp]
            refine⟨_,_,ρ.ku p s l0.length,ho _ _ this,(hi1.del' p).qj p s l0.length (x:=.arr τ' l0) (a:=.cells cs) ⟨(jM (ρ:=ρ.dI p s)).symm,.inr ⟨s,cs,fH (ρ:=ρ),cells_eq _ _ _ _,jL l0 cs k5⟩⟩,rfl,?_,fun q hq=>?_⟩
            ·unfold Rl
             exact .inl ⟨s,fH (ρ:=ρ),by rw[show (ρ.ku p s l0.length).ln p=l0.length from jM (ρ:=ρ.dI p s),hlen];rfl⟩
            ·have hne:q≠p:=fun e=>hq.2 _ hd (by rw[e,hp])
             exact(ay.del' hl hnr).trans (ay.qj hne)
          ·have hl0:l0=[]:=afa (by omega)
           subst hl0
           rcases k2 with rfl|rfl
           ·have:=hap (.lst .nil [])
            dsimp only at this
            rw[if_pos ⟨hroom' 0 rfl,rfl⟩] at this
            exact ow (σ0:=σ) hd (.inr rfl) (hi1.del' p) (fun q=>ay.del' hl hnr) rfl rfl (ho _ _ this) rfl rfl
           ·have:=hap (.lst .full [])
            dsimp only at this
            rw[if_pos ⟨hroom' 0 rfl,rfl⟩,if_pos (by rfl)] at this
            refine⟨_,_,ρ.gh (E.cn d),ho _ _ this,(hi1.del' p).ghost (E.cn d) τ',rfl,by unfold Rl;exact .inr ⟨jM (ρ:=ρ) (n:=0),.inr rfl⟩,fun q hq=>?_⟩
            have iq:q≠E.cn d:=fun e=>hq.2 _ hd e.symm
            refine(ay.del' hl hnr).trans ?_
            exact⟨(fG q iq).1,(fG q iq).2,rfl,iP _,⟨fun _ _=>rfl,fun _ _=>rfl⟩,fun _ _ _=>rfl,fun hr=>⟨((ay.new (nr:=true) (ρ:=ρ) (σ:=σ) (s:=0) (a:=.cells []) iq).ro hr).1,fun _=>⟨rfl,rfl⟩⟩⟩
        |false=>
         rw[hpc,cond_false] at h
         split at h
         ·rename_i a l1
          cases h
          exact ne _ _ rfl
         ·cases h
       ·cases h
      ·cases h
     ·cases h
    ·obtain⟨hE,h⟩:=aM h
     cases h
     intro hroom
     have hroom':roomOK (([]:List V).length+(l'.map (encD R τ)).length) by_=true/\eF (szD R τ) ([]:List V)=true:=⟨by rw[ab3,List.length_nil,ae7];exact hroom,rfl⟩
     rcases Bt (fr:=fr) hE (.of hx) with rfl|rfl
     ·have:=hap (.lst .nil [])
      dsimp only at this
      rw[if_pos hroom'] at this
      refine ow (σ0:=σ) hd (.inr rfl) hi1 (fun q=>.refl) rfl (tV hR _ _) (ho _ _ this) ?_ rfl
      simp
     ·have:=hap (.lst .full [])
      dsimp only at this
      rw[if_pos hroom'] at this
      by_cases hne:((l'.map (encD R τ)).isEmpty)=true
      ·rw[if_pos hne] at this
       have hl':l'=[]:=by simpa using hne
       subst hl'
       refine⟨_,_,ρ.gh (E.cn d),ho _ _ this,hi1.ghost (E.cn d) τ,rfl,by unfold Rl;exact .inr ⟨jM (ρ:=ρ) (n:=0),.inr rfl⟩,fun p hp=>?_⟩
       have iq:p≠E.cn d:=fun e=>hp.2 _ hd e.symm
       exact⟨(fG p iq).1,(fG p iq).2,rfl,iP _,⟨fun _ _=>rfl,fun _ _=>rfl⟩,fun _ _ _=>rfl,fun hr=>⟨((ay.new (nr:=true) (ρ:=ρ) (σ:=σ) (s:=0) (a:=.cells []) iq).ro hr).1,fun _=>⟨rfl,rfl⟩⟩⟩
      ·rw[if_neg hne] at this
       refine ow (σ0:=σ) hd (.inr rfl) hi1 (fun q=>.refl) rfl (tV hR _ _) (ho _ _ this) ?_ rfl
       simp
   ·cases h
  ·cases h
 ·cases h
omit hR in
theorem xL {α β:Type} (f:α->List β) (x:α):∀n,(List.replicate n x).flatMap f=(List.replicate n (f x)).flatten
 |0=>rfl
 |n+1=>by rw[List.replicate_succ,List.replicate_succ,ae1,List.flatten_cons,xL f x n]
omit hR in
theorem GN {ts:List (TV R.T)} {vs:List V} (h:RlL R ρ top ts vs):∀n,RlL R ρ top (List.replicate n ts).flatten (List.replicate n vs).flatten
 |0=>rfl
 |n+1=>by rw[List.replicate_succ,List.replicate_succ,List.flatten_cons,List.flatten_cons];exact h.append (GN h n)
theorem Yr {om:Bool} {d:Option Nat} {t:TypeId} {x y:TV R.T} {v w:V} {r:Res R} {aj:Nat} {o:Oper} (h:mksM E R om d t x y st=some r) (hx:Rl R ρ σ.top x v) (hy:Rl R ρ σ.top y w) (hi:ak ρ aj st fr σ) (hd:o.dst=d)
 (ho:∀y σ',jW E.P om σ aj (d.map fun t=>(ρ.om.lc t)) t v w=some (y,σ')->eD E fr σ aj o y σ'):gL E st ρ aj fr σ o r:=by
 have hi1:=hi.le (aeB aj)
 unfold mksM at h
 split at h
 ·rename_i d e τ sz by_ k n k' m he
  obtain⟨z0,e1,e2,e3,e4,e5,e6,e7,e8,e9⟩:=tT he
  split at h
  ·rename_i z hz
   split at h
   ·rename_i x0 hx0
    obtain⟨zv,z1,z2⟩:=qp (ρ:=ρ) (top:=σ.top) hz
    rw[e5] at z1;cases z1
    rw[hx.inv_int,hy.inv_int] at ho
    have mk:0<=n->n<=m->m<=2^47->roomOK m.toNat by_=true->jW E.P om σ aj ((some d).map fun t=>(ρ.om.lc t)) t (.int k n) (.int k' m)=if n=0/\om=false then some (.lst (.own sz aj) [],σ.aI aj 0) else some (.vw (ρ.om.lc d) aj 0 n.toNat m.toNat sz (isSt τ),σ.setObj (ρ.om.lc d) aj (.cells (List.replicate m.toNat z0.cells).flatten)):=by
     intro h1 h2 h3 h4
     unfold jW
     simp only[e1,e2,e3,e5,Option.bind_some,dP]
     rw[if_pos ⟨h1,h2,h4,h3,e9⟩]
     split
     ·rfl
     ·simp only[Option.map_some,Option.bind_some,e4]
    cases om with
    |true=>
     cases h
     intro hc
     rw[RS] at hc
     obtain⟨c1,c2,c3⟩:=of_decide_eq_true hc.1
     subst c2
     have:=mk c1 (afJ _) c3 hc.2
     rw[if_neg (by simp)] at this
     subst e6
     refine ow (σ0:=σ) hd (.inl rfl) hi1 (fun q=>.refl) rfl ?_ (ho _ _ this) ?_ rfl
     ·rw[xL]
      refine GN ?_ _
      have hzc:RlL R ρ σ.top (tvD R .any τ x0).cells z0.cells:=by
       have h1:=qm hR hx0 z2
       refine(iL ?_ h1).1
       cases τ<;>rfl
      exact hzc
     ·rw[List.length_replicate]
    |false=>
     cases h
     intro hc
     rw[RS] at hc
     obtain⟨c1,c2,c3⟩:=of_decide_eq_true hc.1
     subst c1
     have:=mk (afJ _) c2 c3 hc.2
     rw[if_pos ⟨rfl,rfl⟩] at this
     refine⟨_,_,ρ.bK d aj,ho _ _ this,hi.wk d aj _ (aeB _) (afw _) hi.nx (fun u _ hu=>by have:=hi.lt u _ hu;omega),rfl,?_,fun p _=>ay.wk hi.nx⟩
     unfold Rl
     exact⟨_,rfl,.inr (.inr ⟨aj,by rw[e6],by simp[au.bK,upd],by rw[sU];rfl⟩)⟩
   ·cases h
  ·cases h
 ·cases h
theorem Nk {x:TV R.T} {v:V} {o:Nat} {τ:Ty} {a c:Int} (h:asW st x=some (o,τ,a,c)) (hx:Rl R ρ σ.top x v) (hi:ak ρ b st fr σ):Rl R ρ σ.top (.sub o τ a c) v:=by
 unfold asW at h
 split at h
 ·split at h
  ·rename_i l hl
   cases h
   have h1:=(hi.rd hl).1
   unfold Rl
   refine⟨by omega,by omega,by omega,?_⟩
   rcases hx.mM with ⟨s,k1,rfl⟩| ⟨h0,h2⟩
   ·refine .inl ⟨s,ρ.ln o,k1,by omega,?_⟩
    ·rw[show (((l.length:Nat):Int)-0).toNat=ρ.ln o by omega];simp
   ·refine .inr ⟨by omega,?_⟩
    rcases h2 with rfl|rfl<;>exact⟨_,rfl⟩
  ·cases h
 ·cases h;exact hx
 ·cases h
omit hR in
theorem Nl {n:Int} {cp:Nat} {lo hi':Option Int} {vl vh:Option V} (hl:(lo=none/\vl=none)\/∃n k,lo=some n/\vl=some (.int k n)) (hh:(hi'=none/\vh=none)\/∃n k,hi'=some n/\vh=some (.int k n)) (hc:n.toNat<=cp) (h0:0<=n) (hb:inV (loW lo) (hiW n hi') n=true):
 bS n.toNat cp vl vh none=some ((loW lo).toNat,(hiW n hi').toNat,cp):=by
 have hb':0<=loW lo/\loW lo<=hiW n hi'/\hiW n hi'<=n:=of_decide_eq_true hb
 rcases hl with ⟨rfl,rfl⟩| ⟨i,k,rfl,rfl⟩<;>rcases hh with ⟨rfl,rfl⟩| ⟨m,k',rfl,rfl⟩<;>simp only[loW,hiW] at hb'⊢
 ·rfl
 ·simp only[bS,bnd,dP,Option.bind_some]
  rw[if_pos ⟨by omega,by omega⟩];rfl
 ·simp only[bS,bnd,dP,Option.bind_some]
  rw[if_pos ⟨by omega,by omega⟩];rfl
 ·simp only[bS,bnd,dP,Option.bind_some]
  rw[if_pos ⟨by omega,by omega⟩]
  simp only[Option.bind_some]
  rw[if_pos ⟨by omega,by omega⟩];rfl
theorem Yt {t:TypeId} {x:TV R.T} {lo hi':Option (TV R.T)} {v:V} {vl vh:Option V} {r:Res R} (h:slcW E R t x lo hi' st=some r) (hx:Rl R ρ σ.top x v) (hi:ak ρ b st fr σ)
 (hl:∀y,lo=some y->∃w,vl=some w/\Rl R ρ σ.top y w) (hln:lo=none->vl=none) (hh:∀y,hi'=some y->∃w,vh=some w/\Rl R ρ σ.top y w) (hhn:hi'=none->vh=none):fI ρ σ.top (dQ E.P σ t v vl vh none) r:=by
 unfold slcW at h
 split at h
 ·rename_i o τ a c lo' hi2 e hw e1 e2 hu
  have b1:=oh e1 hl hln
  have b2:=oh e2 hh hhn
  have hxs:=Nk hR hw hx hi
  split at h
  ·rename_i sz hs
   obtain⟨hb,h⟩:=aM h
   cases h
   have:=aP hb;subst this
   intro hc
   have hc':0<=loW lo'/\loW lo'<=hiW (c-a) hi2/\hiW (c-a) hi2<=c-a:=of_decide_eq_true hc
   obtain⟨g0,g1,g2,h⟩:=hxs.nW
   rcases h with ⟨s,cp,h1,h2,rfl⟩| ⟨e,q,rfl⟩
   ·have hsb:=Nl b1 b2 h2 (by omega) hc
    unfold dQ
    rw[hu];dsimp only
    simp only[hs,Option.bind_some,hsb]
    rw[if_true]
    by_cases hz:(loW lo').toNat=(hiW (c-a) hi2).toNat/\0< (loW lo').toNat
    ·rw[if_pos hz]
     exact⟨_,rfl,by unfold Rl;exact⟨by omega,by omega,by omega,.inr ⟨by omega,_,rfl⟩⟩⟩
    ·rw[if_neg hz]
     refine⟨_,rfl,?_⟩
     unfold Rl
     refine⟨by omega,by omega,by omega,.inl ⟨s,cp-(loW lo').toNat,h1,by omega,?_⟩⟩
     rw[<-ae6,show a.toNat+(loW lo').toNat=(a+loW lo').toNat by omega,show (hiW (c-a) hi2).toNat-(loW lo').toNat=(a+hiW (c-a) hi2-(a+loW lo')).toNat by omega]
   ·have e0:c-a=0:=by omega
    have hsb:=Nl (n:=0) (cp:=0) b1 b2 (by simp) (by omega) (by rw[<-e0];exact hc)
    unfold dQ
    rw[hu];dsimp only
    rw[e0] at hc'
    have Yu:bS ([]:List V).length ([]:List V).length vl vh none=some (0,0,0):=by
     have e3:bS ([]:List V).length ([]:List V).length vl vh none=some ((loW lo').toNat,(hiW 0 hi2).toNat,0):=hsb
     rw[e3,show (loW lo').toNat=0 by omega,show (hiW 0 hi2).toNat=0 by omega]
    simp only[hs,Option.bind_some,Yu,eF]
    rw[if_true,e0]
    refine⟨_,rfl,?_⟩
    have hl0:loW lo'=0:=by omega
    have hh0:hiW 0 hi2=0:=by omega
    rw[hl0,hh0]
    have:∀(k:Cap),Rl R ρ σ.top (.sub o τ (a+0) (a+0)) (.lst k []):=fun k=>by unfold Rl;exact⟨by omega,by omega,by omega,.inr ⟨rfl,_,rfl⟩⟩
    exact this _
  ·cases h
 ·cases h
theorem BA {t:TypeId} {x:TV R.T} {lo hi':Option (TV R.T)} {v:V} {vl vh:Option V} {r:Res R} (h:sliceX E R t x lo hi' st=some r) (hx:Rl R ρ σ.top x v) (hi:ak ρ b st fr σ)
 (hl:∀y,lo=some y->∃w,vl=some w/\Rl R ρ σ.top y w) (hln:lo=none->vl=none) (hh:∀y,hi'=some y->∃w,vh=some w/\Rl R ρ σ.top y w) (hhn:hi'=none->vh=none):fI ρ σ.top (dQ E.P σ t v vl vh none) r:=by
 unfold sliceX at h
 split at h
 ·rename_i r' hr
  cases h
  exact Yt hR hr hx hi hl hln hh hhn
 ·exact X6 hR (σ:=σ) h hx hl hln hh hhn
theorem Yv {t:TypeId} {p:Nat} {τ:Ty} {a c:Int} {y:TV R.T} {v w:V} {r:Res R} (h:isM E R t p τ a c y=some r) (hx:Rl R ρ σ.top (.sub p τ a c) v) (hy:Rl R ρ σ.top y w) (hi:ak ρ b st fr σ):fI ρ σ.top (indexAddrV E.P t v w) r:=by
 unfold isM at h
 split at h
 ·rename_i e k n hu
  split at h
  ·rename_i sz hs
   obtain⟨hb,h⟩:=aM h
   cases h
   have:=aP hb;subst this
   rw[hy.inv_int]
   intro hc
   have hc':0<=n/\n<c-a:=of_decide_eq_true hc
   obtain⟨g0,g1,g2,h⟩:=hx.nW
   rcases h with ⟨s,cp,h1,h2,rfl⟩| ⟨e,_,rfl⟩
   ·refine⟨.ref (ρ.om.lc p) s (a.toNat*szD R τ+n.toNat*szD R τ),?_,by unfold Rl;exact⟨s,h1,by omega,by rw[<-ae6,Nat.add_zero];congr 2;omega⟩⟩
    unfold indexAddrV
    rw[hu]
    simp only[hs,Option.bind_some,idx,dP]
    rw[if_pos ⟨hc'.1,by omega⟩]
    simp
   ·omega
  ·cases h
 ·cases h
theorem Yw {om:Bool} {t:TypeId} {p:Nat} {τ:Ty} {y:TV R.T} {v w:V} {r:Res R} (h:ivM E R t p τ y st=some r) (hx:Rl R ρ σ.top (.vw p τ) v) (hy:Rl R ρ σ.top y w) (hi:ak ρ b st fr σ):fI ρ σ.top (indexAddrV E.P t v w) r:=by
 unfold ivM at h
 split at h
 ·rename_i e k n hu
  split at h
  ·rename_i sz hs
   obtain⟨hb,h⟩:=aM h
   split at h
   ·rename_i τ' l hl
    cases h
    have:=aP hb;subst this
    rw[hy.inv_int]
    intro hc
    have hc':=of_decide_eq_true hc
    have hlen:=(hi.rd hl).1
    rcases hx.mM with ⟨s,k1,rfl⟩| ⟨h0,_⟩
    ·refine⟨.ref (ρ.om.lc p) s (n.toNat*szD R τ),?_,by unfold Rl;exact⟨s,k1,hc'.1,rfl⟩⟩
     unfold indexAddrV
     rw[hu]
     simp only[hs,Option.bind_some,idx,dP]
     rw[if_pos ⟨hc'.1,by rw[<-hlen];exact hc'.2⟩]
     simp
    ·rw[hlen,h0] at hc';omega
   ·cases h
  ·cases h
 ·cases h
end
end Aq
end
section
namespace Aq
open Go
section
variable {R:Reg} {E:Env}
variable {ρ:au} {top:Nat->Nat} {b:Nat} {st:MS R.T} {fr:Fr} {σ:Sig}
theorem closeV_fnc {n:Nat} {f:Nat} (a b:List V):closeV (n+2) σ (.fn (.func f) a b)=(a.mapM (closeV (n+1) σ)).bind fun a=>(b.mapM (closeV (n+1) σ)).map fun b=>.fn (.func f) a b:=by
 by_cases hp:pclean (.fn (.func f) a b)=true
 ·rw[closeV_clean hp]
  have:∀cs:List V,pcleanL cs=true->cs.mapM (closeV (n+1) σ)=some cs:=by
   intro cs
   induction cs with
   |nil=>intro _;rfl
   |cons a l ih=>
    intro h
    simp only[pcleanL,RS] at h
    rw[aew,closeV_clean h.1,ih h.2];rfl
  simp only[pclean,RS] at hp
  rw[this a hp.1,this b hp.2];rfl
 ·conv=>lhs;unfold closeV
  simp only[hp,if_false,aaB]
theorem Nn {n:Nat} {off:Nat} (cs:List V):closeV (n+2) σ (.cref cs off)=(cs.mapM (closeV (n+1) σ)).map (.cref · off):=by
 by_cases hp:pclean (.cref cs off)=true
 ·rw[closeV_clean hp]
  have:∀cs:List V,pcleanL cs=true->cs.mapM (closeV (n+1) σ)=some cs:=by
   intro cs
   induction cs with
   |nil=>intro _;rfl
   |cons a l ih=>
    intro h
    simp only[pcleanL,RS] at h
    rw[aew,closeV_clean h.1,ih h.2];rfl
  rw[this cs (by simpa [pclean] using hp)];rfl
 ·conv=>lhs;unfold closeV
  simp only[hp,if_false,aaB]
variable (hR:RegOK R)
include hR
theorem GQ {k e:Ty} (m:List (Den R.T k×Den R.T e)):pclean (.mapc (m.map fun p=>encD R k p.1) (m.map fun p=>encD R e p.2))=true:=by
 simp only[pclean,RS]
 have h1:∀m:List (Den R.T k×Den R.T e),pcleanL (m.map fun p=>encD R k p.1)=true/\pcleanL (m.map fun p=>encD R e p.2)=true:=by
  intro m
  induction m with
  |nil=>exact⟨rfl,rfl⟩
  |cons p m ih=>exact⟨by simp[pcleanL,fV hR,ih.1],by simp[pcleanL,fV hR,ih.2]⟩
 exact h1 m
theorem Np:∀(t:Ty) (x:Den R.T t) (v:V),eX t=true->Rl R ρ top (tv1 R .any t x) v->∀n σ,closeV (n+2) σ v=some (encD R t x)
 |.int k,x,v,_,h,n,σ=>by rw[Rl.inv_int (R:=R) h];exact F4 (n+1) _ _
 |.bool,x,v,_,h,n,σ=>by rw[Rl.gK (R:=R) h];exact F5 (n+1) _
 |.str,x,v,_,h,n,σ=>by rw[Rl.eH (R:=R) h];exact F6 (n+1) _
 |.slice t,x,v,_,h,n,σ=>by
  obtain⟨c,rfl,_⟩:=Rl.dB (R:=R) h
  exact ko _ _ (fV hR _)
 |.st n,_,_,h,_,_,_=>by simp[eX] at h
theorem tY:∀(l:List Ty) (p:PayT R.T l) (vs:List V),l.all eX=true->RlL R ρ top (tvs R .any l p) vs->∀n σ,vs.mapM (closeV (n+2) σ)=some (encs R l p)
 | [],_,vs,_,h,n,σ=>by rw[RlL.inv_nil h];rfl
 | [t],x,vs,hl,h,n,σ=>by
   obtain⟨v,l,rfl,h1,h2⟩:=RlL.inv_cons h
   rw[RlL.inv_nil h2,aew,Np hR t x v (by simpa using hl) h1];rfl
 |t::u::l,p,vs,hl,h,n,σ=>by
  rw[List.all_cons,RS] at hl
  obtain⟨v,ws,rfl,h1,h2⟩:=RlL.inv_cons h
  rw[aew,Np hR t p.1 v hl.1 h1,tY (u::l) p.2 ws hl.2 h2];rfl
theorem Yx (t:Ty) (x:Den R.T t) (vs:List V) (h:RlL R ρ top (tvD R .any t x).cells vs) (n:Nat) (σ:Sig):vs.mapM (closeV (n+2) σ)=some (encD R t x).cells:=by
 cases t with
 |st k=>
  have he:encD R (.st k) x= .agg (encs R (R.lf k) (R.of k x)):=hR.enc k x
  rw[he]
  exact tY hR _ _ vs (hR.leaf k) h n σ
 |int k=>exact tY hR [.int k] x vs rfl h n σ
 |bool=>exact tY hR [.bool] x vs rfl h n σ
 |str=>exact tY hR [.str] x vs rfl h n σ
 |slice t=>exact tY hR [.slice t] x vs rfl h n σ
theorem GR {t:Ty} {ρ:au} {top:Nat->Nat}:∀(l:List (Den R.T t)) (cs:List V),RlL R ρ top (l.flatMap fun x=>(tvD R .any t x).cells) cs->∀(n:Nat) (σ:Sig),cs.mapM (closeV (n+2) σ)=some ((l.map (encD R t)).flatMap V.cells)
 | [],cs,h,n,σ=>by rw[RlL.inv_nil h];rfl
 |x::l,cs,h,n,σ=>by
  rw[ae1] at h
  obtain⟨a,b,rfl,h1,h2⟩:=h.split
  rw[List.mapM_append,GR l b h2 n σ,aez,ae1]
  have:a.mapM (closeV (n+2) σ)=some (encD R t x).cells:=Yx hR t x a h1 n σ
  rw[this];rfl
omit hR in
theorem Nq:∀(t:Ty) (x:Den R.T t) (v:V),eX t=true->Rl R ρ top (tv1 R .any t x) v->aU v=encD R t x
 |.int k,x,v,_,h=>by rw[Rl.inv_int (R:=R) h];rfl
 |.bool,x,v,_,h=>by rw[Rl.gK (R:=R) h];rfl
 |.str,x,v,_,h=>by rw[Rl.eH (R:=R) h];rfl
 |.slice t,x,v,_,h=>by
  obtain⟨c,rfl,_⟩:=Rl.dB (R:=R) h
  rfl
 |.st n,_,_,h,_=>by simp[eX] at h
omit hR in
theorem tZ:∀(l:List Ty) (p:PayT R.T l) (vs:List V),l.all eX=true->RlL R ρ top (tvs R .any l p) vs->vs.map aU=encs R l p
 | [],_,vs,_,h=>by rw[RlL.inv_nil h];rfl
 | [t],x,vs,hl,h=>by
   obtain⟨v,l,rfl,h1,h2⟩:=RlL.inv_cons h
   rw[RlL.inv_nil h2,aez,Nq t x v (by simpa using hl) h1];rfl
 |t::u::l,p,vs,hl,h=>by
  rw[List.all_cons,RS] at hl
  obtain⟨v,ws,rfl,h1,h2⟩:=RlL.inv_cons h
  rw[aez,Nq t p.1 v hl.1 h1,tZ (u::l) p.2 ws hl.2 h2];rfl
theorem Yy (t:Ty) (x:Den R.T t) (vs:List V) (h:RlL R ρ top (tvD R .any t x).cells vs):vs.map aU=(encD R t x).cells:=by
 cases t with
 |st k=>
  have he:encD R (.st k) x= .agg (encs R (R.lf k) (R.of k x)):=hR.enc k x
  rw[he]
  exact tZ _ _ vs (hR.leaf k) h
 |int k=>exact tZ [.int k] x vs rfl h
 |bool=>exact tZ [.bool] x vs rfl h
 |str=>exact tZ [.str] x vs rfl h
 |slice t=>exact tZ [.slice t] x vs rfl h
theorem Nr {t:Ty} {ρ:au} {top:Nat->Nat}:∀(l:List (Den R.T t)) (cs:List V),RlL R ρ top (l.flatMap fun x=>(tvD R .any t x).cells) cs->cs.map aU=(l.map (encD R t)).flatMap V.cells
 | [],cs,h=>by rw[RlL.inv_nil h];rfl
 |x::l,cs,h=>by
  rw[ae1] at h
  obtain⟨a,b,rfl,h1,h2⟩:=h.split
  rw[afj,Nr l b h2,aez,ae1,Yy hR t x a h1]
theorem GU {t:Ty} (l:List (Den R.T t)):chunks (isSt t) (szD R t) l.length ((l.map (encD R t)).flatMap V.cells)=l.map (encD R t):=by
 have:=GA (isSt t) (szD R t) (l.map (encD R t)) (fun v hv=>by
  obtain⟨x,_,rfl⟩:=List.mem_map.1 hv
  exact(tO hR t x).1)
 rw[ab3] at this
 rw[this,afK]
 refine afG fun x _=>?_
 show (if isSt t then V.agg (encD R t x).cells else (encD R t x).cells.headD undefV)=encD R t x
 cases hs:isSt t
 ·cases t<;>first|rfl| (simp[isSt] at hs;done)
 ·obtain⟨c,hc⟩:=(tO hR t x).2.2.2.1 hs
  rw[hc];rfl
theorem GV {t:Ty} (l:List (Den R.T t)):(isSt t||szD R t==1&& oneCells ((l.map (encD R t)).flatMap V.cells))=true:=by
 cases hs:isSt t
 ·have h1:szD R t=1:=by cases t<;>first|rfl| (simp[isSt] at hs;done)
  rw[h1]
  have:oneCells ((l.map (encD R t)).flatMap V.cells)=true:=by
   have:=GH hR l
   unfold oneCells at this⊢
   rw[List.all_flatMap]
   exact this
  rw[this];rfl
 ·rfl
omit hR in
theorem Ns:∀(a b:List V),pcleanL (a++b)=(pcleanL a&& pcleanL b)
 | [],b=>by simp[pcleanL]
 |x::a,b=>by simp only[List.cons_append,pcleanL];rw[Ns a b,Bool.and_assoc]
omit hR in
theorem BD (k:IntKind):∀l:List Int,pcleanL (l.map (V.int k))=true
 | []=>by simp[pcleanL]
 |x::l=>by simp only[aez,pcleanL,F7,Bool.true_and];exact BD k l
omit hR in
theorem GX:∀ss:List Sg,pcleanL (sgV ss)=true
 | []=>by simp[sgV,pcleanL]
 |.i k x::ss=>by show pcleanL (V.int k x::sgV ss)=true;unfold pcleanL;rw[GX ss];simp[pclean]
 |.a k n v::ss=>by
  show pcleanL (v.l.map (V.int k)++sgV ss)=true
  rw[Ns,BD,GX ss];rfl
omit hR in
theorem GY (ss:List Sg):pclean (.agg (sgV ss))=true:=by unfold pclean;exact GX ss
omit hR in
theorem Nt:∀(a b:List V),dz (a++b)=(dz a&& dz b)
 | [],b=>by simp[dz]
 |x::a,b=>by simp only[List.cons_append,dz];rw[Nt a b,Bool.and_assoc]
omit hR in
theorem Nu (k:IntKind):∀l:List Int,dz (l.map (V.int k))=true
 | []=>by simp[dz]
 |x::l=>by simp only[aez,dz,flat,Bool.true_and];exact Nu k l
omit hR in
theorem BF:∀ss:List Sg,dz (sgV ss)=true
 | []=>by simp[sgV,dz]
 |.i k x::ss=>by show dz (V.int k x::sgV ss)=true;unfold dz;rw[BF ss];simp[flat]
 |.a k n v::ss=>by
  show dz (v.l.map (V.int k)++sgV ss)=true
  rw[Nt,Nu,BF ss];rfl
omit hR in
theorem Yz (ss:List Sg):er (.agg (sgV ss))= .agg (sgV ss):=by
 have:∀ss:List Sg,(sgV ss).map aU=sgV ss:=by
  intro ss
  induction ss with
  |nil=>rfl
  |cons s ss ih=>
   cases s with
   |i k x=>show aU (.int k x)::(sgV ss).map aU=_;rw[ih];rfl
   |a k n v=>
    show (v.l.map (V.int k)++sgV ss).map aU=_
    rw[afj,ih,afK];rfl
 show V.agg ((sgV ss).map aU)=_
 rw[this]
omit hR in
theorem iM:∀(a b:List Sg),sgV (a++b)=sgV a++sgV b
 | [],b=>rfl
 |s::a,b=>by show s.vs++sgV (a++b)=s.vs++sgV a++sgV b;rw[iM a b,aeC]
omit hR in
theorem Sg.len:∀s:Sg,s.vs.length=s.w
 |.i _ _=>rfl
 |.a _ n v=>by show (v.l.map _).length=n;rw[ab3,v.h]
omit hR in
theorem bQ:∀ss:List Sg,(sgV ss).length=sgW ss
 | []=>rfl
 |s::ss=>by show (s.vs++sgV ss).length=s.w+sgW ss;rw[aaG,s.len,bQ ss]
omit hR in
theorem kF:∀{ss:List Sg} {n:Nat} {a b:List Sg},splitG ss n=some (a,b)->ss=a++b/\sgW a=n
 |ss,0,a,b,h=>by
  have h':some (([]:List Sg),ss)=some (a,b):=by cases ss<;>exact h
  cases h';exact⟨rfl,rfl⟩
 | [],n+1,a,b,h=>by cases h
 |s::ss,n+1,a,b,h=>by
  unfold splitG at h
  obtain⟨h1,h⟩:=aM h
  split at h
  ·rename_i a' b' h2
   cases h
   obtain⟨e,hw⟩:=kF h2
   have:=ae2 h1
   refine⟨by rw[e];rfl,?_⟩
   show s.w+sgW a'=n+1
   omega
  ·cases h
omit hR in
theorem BG {ρ:au} {top:Nat->Nat} {k:IntKind}:∀{cs:List (TV R.T)} {xs:List Int} {vs:List V},unIs k cs=some xs->RlL R ρ top cs vs->vs=xs.map (V.int k)
 | [],xs,vs,h,hr=>by cases h;exact hr.inv_nil
 |c::cs,xs,vs,h,hr=>by
  obtain⟨v,ws,rfl,h1,h2⟩:=hr.inv_cons
  cases c<;>first| (exact absurd (show none=some xs from h) (by simp))|skip
  rename_i k' x
  have h':(if k'=k then (match unIs k cs with
   |some xs=>some (x::xs)
   |none=>none) else none)=some xs:=h
  split at h'
  ·rename_i e;subst e
   split at h'
   ·rename_i ys hy
    cases h'
    rw[h1.inv_int,BG hy h2];rfl
   ·cases h'
  ·cases h'
omit hR in
theorem GZ (k:IntKind):∀(l:List Int) (rest:List V),chunks false 1 l.length (l.map (V.int k)++rest)=l.map (V.int k)
 | [],rest=>rfl
 |x::l,rest=>by
  show V.int k x::chunks false 1 l.length (l.map (V.int k)++rest)=_
  rw[GZ k l rest];rfl
omit hR in
theorem qw {n:Nat} {lo hi:Option Int} (h:svB n lo hi=true):(loI lo).toNat<=(hiI n hi).toNat/\(hiI n hi).toNat<=n/\((loI lo).toNat< (hiI n hi).toNat\/(loI lo).toNat=0)/\0<=loI lo/\loI lo<=hiI n hi:=by
 cases lo<;>cases hi<;>simp only[svB,loI,hiI,decide_eq_true_eq] at h⊢ <;>omega
omit hR in
theorem YA {α:Type} {n:Nat} {lo hi:Option Int} (h:svB n lo hi=true) {l:List α} (hl:l.length=n):subG l lo hi=(l.drop (loI lo).toNat).take ((hiI n hi).toNat-(loI lo).toNat):=by
 obtain⟨h1,h2,_⟩:=qw h
 cases lo<;>cases hi<;>simp only[subG,loI,hiI] at*
 ·simp[hl];rw[afm (by omega)]
 ·simp
 ·rw[afm];rw[aex];omega
 ·rw[List.take_drop];congr 1;congr 1;omega
theorem Nv (hi:ak ρ b st fr σ) {o off n:Nat} {k:IntKind} {lo hi':Option Int} {l:List Int} (h:svL st o off k n lo hi'=some l) {s:Nat} (hs:ρ.ob o=some s) (hB:svB n lo hi'=true):
 ∃cs,σ.cellsAt (ρ.om.lc o) s=some cs/\off+n<=cs.length/\(cs.drop (off+(loI lo).toNat)).take ((hiI n hi').toNat-(loI lo).toNat)=l.map (V.int k)/\l.length=(hiI n hi').toNat-(loI lo).toNat:=by
 obtain⟨p1,p2,p3,_,_⟩:=qw hB
 have fin:∀(cs:List V) (xs:List Int),xs.length=n->(cs.drop off).take n=xs.map (V.int k)->off+n<=cs.length->l=subG xs lo hi'->(cs.drop (off+(loI lo).toNat)).take ((hiI n hi').toNat-(loI lo).toNat)=l.map (V.int k)/\l.length=(hiI n hi').toNat-(loI lo).toNat:=by
  intro cs xs hx hc hle hl
  rw[YA hB hx] at hl
  subst hl
  constructor
  ·rw[List.map_take,List.map_drop,<-hc,List.drop_take,List.take_take,List.drop_drop]
   congr 1
   omega
  ·rw[aev,aex];omega
 unfold svL at h
 split at h
 ·rename_i ss hl
  obtain⟨s',h1,h2⟩:=hi.rd hl
  rw[hs] at h1;cases h1
  split at h
  ·rename_i pre k' n' v post hsp
   by_cases e:k'=k
   ·subst e
    rw[if_pos rfl] at h
    cases e2:Nat.beq n' n
    ·rw[e2] at h;cases h
    rw[e2] at h
    have e2:=aP e2
    subst e2
    obtain rfl:subG v.l lo hi'=l:=aeF h
    obtain⟨e3,hw⟩:=kF hsp
    refine⟨_,h2,?_,?_⟩
    ·rw[e3,bQ]
     have:∀a b:List Sg,sgW (a++b)=sgW a+sgW b:=fun a b=>by rw[<-bQ,iM,aaG,bQ,bQ]
     rw[this,hw]
     show off+n'<=off+(n'+sgW post);omega
    ·refine fin _ v.l v.h ?_ ?_ rfl
     ·rw[e3,iM,afQ (by rw[bQ,hw];exact iP _),afO (by rw[bQ,hw];exact iP _),List.nil_append]
      show ((v.l.map (V.int k'))++sgV post).take n'=_
      rw[afM (by rw[ab3,v.h];exact iP _),afm (by rw[ab3,v.h];exact iP _)]
     ·rw[e3,iM,aaG,bQ,hw,bQ]
      show off+n'<=off+(n'+sgW post);omega
   ·rw[if_neg e] at h;cases h
  ·cases h
 ·rename_i cs hl
  obtain⟨s',vs,h1,h2,h3⟩:=hi.rd hl
  rw[hs] at h1;cases h1
  obtain⟨hb,h⟩:=aM h
  have hb:=ae2 hb
  split at h
  ·rename_i xs hx
   cases h
   have hv:=BG hx ((h3.drop off).take n)
   have hlen:off+n<=vs.length:=by rw[h3.length];exact hb
   refine⟨vs,h2,hlen,fin vs xs ?_ hv hlen rfl⟩
   have:=congrArg List.length hv
   rw[ab3,aev,aex] at this
   omega
  ·cases h
 ·cases h
theorem Nw (hi:ak ρ b st fr σ) {x:TV R.T} {v:V} (h:Rl R ρ σ.top x v):∃v',Rl R ρ σ.top (clo1 st x) v'/\∀n,closeV (n+3) σ v=closeV (n+3) σ v':=by
 by_cases hx:∃o off,x= .ref o off
 ·obtain⟨o,off,rfl⟩:=hx
  unfold clo1
  dsimp only
  split
  ·rename_i cs hl
   obtain⟨s,h1,rfl⟩:=h.fU
   obtain⟨s',l,h2,h3,h4⟩:=hi.rd hl
   rw[h1] at h2;cases h2
   refine⟨.cref l off,by unfold Rl;exact⟨l,rfl,h4⟩,fun n=>?_⟩
   rw[Nn]
   conv=>lhs;unfold closeV
   simp only[pclean,aaB,if_false,h3,Option.bind_some]
  ·exact⟨v,h,fun _=>rfl⟩
 ·by_cases hy:∃o,x= .mapr o
  ·obtain⟨o,rfl⟩:=hy
   unfold clo1
   dsimp only
   split
   ·rename_i k e m hl
    obtain⟨s,h1,rfl⟩:=h.mK
    obtain⟨s',h2,h3⟩:=hi.rd hl
    rw[h1] at h2;cases h2
    refine⟨.mapc (m.map fun p=>encD R k p.1) (m.map fun p=>encD R e p.2),by unfold Rl;rfl,fun n=>?_⟩
    have hp:=GQ hR m
    rw[closeV_clean hp]
    have hp':=hp
    simp only[pclean,RS] at hp'
    have key:∀cs:List V,pcleanL cs=true->cs.mapM (closeV (n+2) σ)=some cs:=by
     intro cs
     induction cs with
     |nil=>intro _;rfl
     |cons a l ih=>
      intro h
      simp only[pcleanL,RS] at h
      rw[aew,closeV_clean h.1,ih h.2];rfl
    conv=>lhs;unfold closeV
    simp only[pclean,aaB,if_false,h3,Option.bind_some,key _ hp'.1,key _ hp'.2,Option.map_some]
   ·exact⟨v,h,fun _=>rfl⟩
  ·by_cases hz:∃o t,x= .vw o t
   ·obtain⟨o,t,rfl⟩:=hz
    unfold clo1
    dsimp only
    split
    ·rename_i t' l hl
     split
     ·rename_i e
      subst e
      have hO:=hi.rd hl
      refine⟨.lst .sh (l.map (encD R t')),by unfold Rl;exact⟨.sh,rfl,rfl⟩,fun n=>?_⟩
      rw[ko _ _ (fV hR t')]
      rcases h.mM with ⟨s,h1,rfl⟩| ⟨h1,h2⟩
      ·rcases hO.2 with h2| ⟨s',cs,h2,h3,h4⟩
       ·rw[h1] at h2;exact absurd h2.2 (by simp)
       ·rw[h1] at h2;cases h2
        have hlc:cs.length=l.length*szD R t':=by rw[h4.length,ou]
        have hlen:l.length=ρ.ln o:=hO.1
        conv=>lhs;unfold closeV
        simp only[pclean,aaB,if_false,h3,Option.bind_some,ae7,afq]
        rw[if_pos (by rw[hlc,hlen];exact iP _),afm (by rw[hlc,hlen];exact iP _),GR hR l cs h4 n σ]
        simp only[Option.bind_some]
        rw[<-hlen,GU hR l,GV hR l,if_pos rfl]
        rfl
      ·have hl0:l=[]:=afa (hO.1.trans h1)
       subst hl0
       rcases h2 with rfl|rfl<;>exact ko _ ([]:List (Den R.T t')) (fV hR t')
     ·exact⟨v,h,fun _=>rfl⟩
    ·exact⟨v,h,fun _=>rfl⟩
   ·by_cases hz2:∃o off k n lo hi,x= .sv o off k n lo hi
    ·obtain⟨o,off,k,n,lo,hi',rfl⟩:=hz2
     unfold clo1
     dsimp only
     split
     ·rename_i l hl
      obtain⟨s,h1,hB,rfl⟩:=h.nX
      obtain⟨cs,c1,c2,c3,c4⟩:=Nv hR hi hl h1 hB
      obtain⟨p1,p2,p3,_,_⟩:=qw hB
      refine⟨.lst .sh (l.map (V.int k)),by unfold Rl;exact⟨.sh,rfl,rfl⟩,fun m=>?_⟩
      have hcl:closeV (m+3) σ (.lst .sh (l.map (V.int k)))=some (.lst .sh (l.map (V.int k))):=closeV_clean (by unfold pclean;exact BD k l)
      rw[hcl]
      conv=>lhs;unfold closeV
      simp only[pclean,aaB,if_false,c1,Option.bind_some,Nat.mul_one]
      rw[if_pos (by omega),c3]
      have key:∀cs:List V,pcleanL cs=true->cs.mapM (closeV (m+2) σ)=some cs:=by
       intro cs
       induction cs with
       |nil=>intro _;rfl
       |cons a l ih=>
        intro h
        simp only[pcleanL,RS] at h
        rw[aew,closeV_clean h.1,ih h.2];rfl
      rw[key _ (BD k l)]
      simp only[Option.bind_some]
      have hone:oneCells (l.map (V.int k))=true:=by unfold oneCells;rw[List.all_map];simp[oneCell]
      rw[hone,<-c4]
      have:=GZ k l []
      rw[aeX] at this
      rw[this];rfl
     ·exact⟨v,h,fun _=>rfl⟩
    ·by_cases hz3:∃o t a b,x= .sub o t a b
     ·obtain⟨o,t,a,b,rfl⟩:=hz3
      unfold clo1
      dsimp only
      split
      ·rename_i t' l hl
       split
       ·rename_i e
        subst e
        have hO:=hi.rd hl
        have hlen:l.length=ρ.ln o:=hO.1
        obtain⟨g0,g1,g2,h⟩:=h.nW
        refine⟨.lst .sh ((subI l a b).map (encD R t')),by unfold Rl;exact⟨.sh,rfl,rfl⟩,fun n=>?_⟩
        rw[ko _ _ (fV hR t')]
        have hsl:(subI l a b).length=(b-a).toNat:=by rw[Nh g0 g1,aev,aex];omega
        rcases h with ⟨s,cp,h1,h2,rfl⟩| ⟨e,c,rfl⟩
        ·rcases hO.2 with h2| ⟨s',cs,h2,h3,h4⟩
         ·rw[h1] at h2;exact absurd h2.2 (by simp)
         ·rw[h1] at h2;cases h2
          have hlc:cs.length=l.length*szD R t':=by rw[h4.length,ou]
          have hp:=Ye g0 g1 h4
          have hle:a.toNat*szD R t'+(b-a).toNat*szD R t'<=cs.length:=by
           rw[hlc,<-ae6];exact ae3 _ (by omega)
          conv=>lhs;unfold closeV
          simp only[pclean,aaB,if_false,h3,Option.bind_some]
          rw[if_pos hle,GR hR _ _ hp n σ]
          simp only[Option.bind_some]
          rw[<-hsl,GU hR,GV hR,if_pos rfl]
          rfl
        ·have hl0:subI l a b=[]:=afa (by rw[hsl,e];simp)
         rw[hl0]
         exact ko _ ([]:List (Den R.T t')) (fV hR t')
       ·exact⟨v,h,fun _=>rfl⟩
      ·exact⟨v,h,fun _=>rfl⟩
     ·have:clo1 st x=x:=by cases x<;>first|rfl|exact absurd ⟨_,_,rfl⟩ hx|exact absurd ⟨_,rfl⟩ hy|exact absurd ⟨_,_,rfl⟩ hz|exact absurd ⟨_,_,_,_,_,_,rfl⟩ hz2|exact absurd ⟨_,_,_,_,rfl⟩ hz3
      rw[this];exact⟨v,h,fun _=>rfl⟩
theorem BH (hi:ak ρ b st fr σ):∀{x:List (TV R.T)} {v:List V},RlL R ρ σ.top x v->∃v',RlL R ρ σ.top (clo1s st x) v'/\∀n,v.mapM (closeV (n+3) σ)=v'.mapM (closeV (n+3) σ)
 | [],v,h=>by rw[h.inv_nil];exact⟨[],rfl,fun _=>rfl⟩
 |x::xs,v,h=>by
  obtain⟨w,ws,rfl,h1,h2⟩:=h.inv_cons
  obtain⟨w',a1,a2⟩:=Nw hR hi h1
  obtain⟨ws',b1,b2⟩:=BH hi h2
  exact⟨w'::ws',.cons' a1 b1,fun n=>by rw[aew,aew,a2,b2]⟩
theorem YB (hi:ak ρ b st fr σ) {x:TV R.T} {v:V} (h:Rl R ρ σ.top x v):∃v',Rl R ρ σ.top (cloM st x) v'/\∀n,closeV (n+4) σ v=closeV (n+4) σ v':=by
 by_cases hx:∃f a b,x= .fn f a b
 ·obtain⟨f,a,b,rfl⟩:=hx
  obtain⟨a',b',rfl,ha,hb⟩:=h.eB
  obtain⟨va,a1,a2⟩:=BH hR hi ha
  obtain⟨vb,b1,b2⟩:=BH hR hi hb
  refine⟨.fn (.func f) va vb,⟨va,vb,rfl,a1,b1⟩,fun n=>?_⟩
  rw[closeV_fnc,closeV_fnc,a2,b2]
 ·by_cases hy:∃cs,x= .agg cs
  ·obtain⟨cs,rfl⟩:=hy
   obtain⟨l,rfl,hl⟩:=h.dL
   obtain⟨v',a1,a2⟩:=BH hR hi hl
   refine⟨.agg v',by unfold cloM;unfold Rl;exact⟨v',rfl,a1⟩,fun n=>?_⟩
   rw[Gi,Gi,a2]
  ·have:cloM st x=clo1 st x:=by cases x<;>first|rfl|exact absurd ⟨_,_,_,rfl⟩ hx|exact absurd ⟨_,rfl⟩ hy
   rw[this]
   obtain⟨v',h1,h2⟩:=Nw hR hi h
   exact⟨v',h1,fun n=>h2 (n+1)⟩
theorem xM (hi:ak ρ b st fr σ):∀{x:List (TV R.T)} {v:List V},RlL R ρ σ.top x v->∃v',RlL R ρ σ.top (cloMs st x) v'/\∀n,v.mapM (closeV (n+4) σ)=v'.mapM (closeV (n+4) σ)
 | [],v,h=>by rw[h.inv_nil];exact⟨[],rfl,fun _=>rfl⟩
 |x::xs,v,h=>by
  obtain⟨w,ws,rfl,h1,h2⟩:=h.inv_cons
  obtain⟨w',a1,a2⟩:=YB hR hi h1
  obtain⟨ws',b1,b2⟩:=xM hi h2
  exact⟨w'::ws',.cons' a1 b1,fun n=>by rw[aew,aew,a2,b2]⟩
mutual
theorem G5:∀(k:Sk) (x:PayS R.T k) (tv:TV R.T) (v:V),cSk k=true->pk R k tv=some x->Rl R ρ top tv v->∀n σ,dep k<=n->closeV n σ v=some (encS R k x)
 |.d t,x,tv,v,_,h,hr,n,σ,hn=>by
  obtain⟨m,rfl⟩:∃m,n=m+3:=⟨n-3,by have:3<=n:=hn;omega⟩
  exact(Gj hR (show unD R t tv=some x from h) hr).2.2.1 m σ
 |.l c t,x,tv,v,_,h,hr,n,σ,hn=>by
  obtain⟨m,rfl⟩:∃m,n=m+3:=⟨n-3,by have:3<=n:=hn;omega⟩
  obtain⟨c',rfl,_⟩:=(MG (show pkLst R c t tv=some x from h) hr).dB
  exact ko _ _ (fV hR _)
 |.agg l,x,tv,v,hc,h,hr,n,σ,hn=>by
  cases tv<;>first| (exact absurd (show none=some x from h) (by simp))|skip
  rename_i cs
  obtain⟨vs,rfl,hl⟩:=hr.dL
  unfold dep at hn
  obtain⟨m,rfl⟩:∃m,n=m+2:=⟨n-2,by omega⟩
  rw[LY,iN l x cs vs (by unfold cSk at hc;exact hc) h hl (m+1) σ (by omega)];rfl
 |.cref l off,x,tv,v,hc,h,hr,n,σ,hn=>by
  cases tv<;>first| (exact absurd (show none=some x from h) (by simp))|skip
  rename_i cs off'
  have h':(bif Nat.beq off' off then pkL R l cs else none)=some x:=h
  obtain⟨hb,h'⟩:=aM h'
  rw[aP hb] at hr
  obtain⟨vs,rfl,hl⟩:=hr.iI
  unfold dep at hn
  obtain⟨m,rfl⟩:∃m,n=m+2:=⟨n-2,by omega⟩
  rw[Nn,iN l x cs vs (by unfold cSk at hc;exact hc) h' hl (m+1) σ (by omega)];rfl
 |.mapc k e,x,tv,v,_,h,hr,n,σ,hn=>by
  cases tv<;>first| (exact absurd (show none=some x from h) (by simp))|skip
  rename_i k' e' m
  obtain⟨e1,e2,e3⟩:=Gp (show castM R m=some x from h)
  subst e1;subst e2;cases e3
  obtain⟨m',rfl⟩:∃m,n=m+3:=⟨n-3,by have:3<=n:=hn;omega⟩
  rw[hr.nV]
  exact closeV_clean (GQ hR m)
 |.fn f a b,x,tv,v,hc,h,hr,n,σ,hn=>by
  cases tv<;>first| (exact absurd (show none=some x from h) (by simp))|skip
  rename_i f' a' b'
  have h':(bif Nat.beq f' f then (match pkL R a a' with
   |some x=>match pkL R b b' with
    |some y=>some (x,y)
    |none=>none
   |none=>none) else none)=some x:=h
  obtain⟨hb,h'⟩:=aM h'
  rw[aP hb] at hr
  obtain⟨va,vb,rfl,ha,hbb⟩:=hr.eB
  unfold cSk at hc
  rw[RS] at hc
  unfold dep at hn
  obtain⟨m,rfl⟩:∃m,n=m+2:=⟨n-2,by omega⟩
  cases h1:pkL R a a' with
  |none=>simp only[h1] at h';cases h'
  |some y=>
   cases h2:pkL R b b' with
   |none=>simp only[h1,h2] at h';cases h'
   |some z=>
    simp only[h1,h2] at h';cases h'
    rw[closeV_fnc,iN a y a' va hc.1 h1 ha (m+1) σ (by omega),iN b z b' vb hc.2 h2 hbb (m+1) σ (by omega)];rfl
 |.ref _ _,_,_,_,h,_,_,_,_,_=>by simp[cSk] at h
 |.mapr _,_,_,_,h,_,_,_,_,_=>by simp[cSk] at h
 |.nils,_,_,_,h,_,_,_,_,_=>by simp[cSk] at h
 |.vw _ _,_,_,_,h,_,_,_,_,_=>by simp[cSk] at h
 |.sub _ _,_,_,_,h,_,_,_,_,_=>by simp[cSk] at h
 |.sg l,x,tv,v,_,h,hr,n,σ,hn=>by
  cases tv<;>first| (exact absurd (show none=some x from h) (by simp))|skip
  rename_i ss
  obtain⟨m,rfl⟩:∃m,n=m+1:=⟨n-1,by have:3<=n:=hn;omega⟩
  rw[hr.sZ]
  show _=some (V.agg (sgV (upG l x)))
  rw[Bp (show pkG l ss=some x from h)]
  exact closeV_clean (GY ss)
 |.undef,_,_,_,h,_,_,_,_,_=>by simp[cSk] at h
theorem iN:∀(l:List Sk) (x:PayL R.T l) (cs:List (TV R.T)) (vs:List V),cSkL l=true->pkL R l cs=some x->RlL R ρ top cs vs->∀n σ,depL l<=n->vs.mapM (closeV n σ)=some (encSL R l x)
 | [],x,cs,vs,_,h,hr,n,σ,hn=>by
   cases cs with
   |nil=>rw[hr.inv_nil];rfl
   |cons c cs=>exact absurd (show none=some x from h) (by simp)
 | [k],x,cs,vs,hc,h,hr,n,σ,hn=>by
   unfold cSkL at hc
   rw[RS] at hc
   unfold depL at hn
   cases cs with
   |nil=>exact absurd (show none=some x from h) (by simp)
   |cons c cs=>
    cases cs with
    |nil=>
     obtain⟨v,l,rfl,h1,h2⟩:=hr.inv_cons
     rw[h2.inv_nil,aew,G5 k x c v hc.1 h h1 n σ (by omega)];rfl
    |cons c' cs=>exact absurd (show none=some x from h) (by simp)
 |k::k'::l,x,cs,vs,hc,h,hr,n,σ,hn=>by
  unfold cSkL at hc
  rw[RS] at hc
  unfold depL at hn
  cases cs with
  |nil=>exact absurd (show none=some x from h) (by simp)
  |cons c cs=>
   have h':(match pk R k c with
    |some x=>match pkL R (k'::l) cs with
     |some p=>some (x,p)
     |none=>none
    |none=>none)=some x:=h
   obtain⟨v,vs,rfl,h1,h2⟩:=hr.inv_cons
   cases hu:pk R k c with
   |none=>simp only[hu] at h';cases h'
   |some y=>
    cases hs:pkL R (k'::l) cs with
    |none=>simp only[hu,hs] at h';cases h'
    |some q=>
     simp only[hu,hs] at h'
     obtain rfl:=aeF h'
     rw[aew,G5 k y c v hc.1 hu h1 n σ (by omega),iN (k'::l) q cs vs hc.2 hs h2 n σ (by omega)];rfl
end
mutual
theorem xO:∀(tv:TV R.T) (v:V),stV tv=true->Rl R ρ top tv v->pclean v=true
 |.int _ _,v,_,h=>by rw[h.inv_int];exact F7 _ _
 |.bool _,v,_,h=>by rw[h.gK];exact F8 _
 |.blit _,v,_,h=>by rw[h.ji];exact F8 _
 |.str _,v,_,h=>by rw[h.eH];exact LV _
 |.nilp,v,_,h=>by unfold Rl at h;subst h;simp[pclean]
 |.nilf,v,_,h=>by unfold Rl at h;subst h;simp[pclean]
 |.nilm,v,_,h=>by unfold Rl at h;subst h;simp[pclean]
 |.nili,v,_,h=>by unfold Rl at h;subst h;simp[pclean]
 |.lst c t l,v,hs,h=>by
  cases c<;>simp only[stV,aaB] at hs
  obtain⟨c',rfl,hc⟩:=h.dB
  obtain rfl:c'= .sh:=hc
  exact xw (fV hR t) l
 |.agg cs,v,hs,h=>by
  obtain⟨l,rfl,hl⟩:=h.dL
  unfold pclean;exact kZ cs l (by unfold stV at hs;exact hs) hl
 |.tup cs,v,hs,h=>by
  obtain⟨l,rfl,hl⟩:=h.sW
  unfold pclean;exact kZ cs l (by unfold stV at hs;exact hs) hl
 |.mapc k e m,v,_,h=>by rw[h.nV];exact GQ hR m
 |.fn f a b,v,hs,h=>by
  obtain⟨a',b',rfl,ha,hb⟩:=h.eB
  unfold stV at hs
  rw[RS] at hs
  unfold pclean;rw[kZ a a' hs.1 ha,kZ b b' hs.2 hb];rfl
 |.nils,_,hs,_=>by simp[stV] at hs
 |.ref _ _,_,hs,_=>by simp[stV] at hs
 |.cref cs off,v,hs,h=>by
  obtain⟨l,rfl,hl⟩:=h.iI
  unfold pclean;exact kZ cs l (by unfold stV at hs;exact hs) hl
 |.vw _ _,_,hs,_=>by simp[stV] at hs
 |.sub _ _ _ _,_,hs,_=>by simp[stV] at hs
 |.eref _ _ _ _,_,hs,_=>by simp[stV] at hs
 |.sg ss,v,_,h=>by rw[h.sZ];exact GY ss
 |.sv _ _ _ _ _ _,_,hs,_=>by simp[stV] at hs
 |.sel _ _ _ _ _ _,_,hs,_=>by simp[stV] at hs
 |.gel _ _ _ _,_,hs,_=>by simp[stV] at hs
 |.mapr _,_,hs,_=>by simp[stV] at hs
 |.opt _ _ _,_,hs,_=>by simp[stV] at hs
 |.undef,_,hs,_=>by simp[stV] at hs
 |.gone,_,hs,_=>by simp[stV] at hs
theorem kZ:∀(l:List (TV R.T)) (vs:List V),stL l=true->RlL R ρ top l vs->pcleanL vs=true
 | [],vs,_,h=>by rw[h.inv_nil];rfl
 |x::l,vs,hs,h=>by
  obtain⟨v,ws,rfl,h1,h2⟩:=h.inv_cons
  unfold stL at hs
  rw[RS] at hs
  unfold pcleanL;rw[xO x v hs.1 h1,kZ l ws hs.2 h2];rfl
end
theorem Ny {x:TV R.T} {v:V} (hs:cl1 x=true) (h:Rl R ρ top x v):pclean (aU v)=true:=by
 have key:stV x=true->pclean (aU v)=true:=fun hs=>by
  have:=xO hR x v hs h
  cases v with
  |lst c l=>cases c<;>simp[pclean] at this<;>simpa [aU,pclean] using this
  |_=>exact this
 cases x<;>first|exact key hs|skip
 ·rw[h.fF];simp[aU,pclean,pcleanL]
 ·obtain⟨c',rfl,hc⟩:=h.dB
  exact xw (fV hR _) _
theorem Nz:∀{x:List (TV R.T)} {v:List V},cl1s x=true->RlL R ρ top x v->pcleanL (v.map aU)=true
 | [],vs,_,h=>by rw[h.inv_nil];rfl
 |x::l,vs,hs,h=>by
  obtain⟨v,ws,rfl,h1,h2⟩:=h.inv_cons
  unfold cl1s at hs
  rw[RS] at hs
  rw[aez];unfold pcleanL;rw[Ny hR hs.1 h1,Nz hs.2 h2];rfl
theorem YC {x:TV R.T} {v:V} (hs:clV x=true) (h:Rl R ρ top x v):pclean (er v)=true:=by
 by_cases hx:∃cs,x= .agg cs
 ·obtain⟨cs,rfl⟩:=hx
  obtain⟨l,rfl,hl⟩:=h.dL
  show pclean (.agg (l.map aU))=true
  unfold pclean;exact Nz hR hs hl
 ·by_cases hy:∃ss,x= .sg ss
  ·obtain⟨ss,rfl⟩:=hy
   rw[h.sZ,Yz];exact GY ss
  have hs':cl1 x=true:=by cases x<;>first|exact hs|exact absurd ⟨_,rfl⟩ hx
  have h1:=Ny hR hs' h
  have hne:∀cs,v≠ .agg cs:=by
   rintro cs rfl
   cases x<;>first|exact hy ⟨_,rfl⟩| (unfold Rl at h;simp at h;done)|exact hx ⟨_,rfl⟩| (simp[cl1,stV] at hs';done)
  rw[Xr hne];exact h1
theorem xQ:∀{x:List (TV R.T)} {v:List V},clVs x=true->RlL R ρ top x v->v.all (fun a=>pclean (er a))=true
 | [],vs,_,h=>by rw[h.inv_nil];rfl
 |x::l,vs,hs,h=>by
  obtain⟨v,ws,rfl,h1,h2⟩:=h.inv_cons
  unfold clVs at hs
  rw[RS] at hs
  rw[List.all_cons,YC hR hs.1 h1,xQ hs.2 h2];rfl
theorem G6:∀(l:List Sk) (x:PayL R.T l),flatSk l=true->dz (encSL R l x)=true
 | [],x,_=>rfl
 | [k],x,h=>by
   cases k<;>simp only[flatSk,Bool.and_true,aaB] at h
   ·rename_i t
    show (flat (encD R t x)&& dz [])=true
    cases t<;>simp only[flatT,aaB] at h<;>rfl
   ·rename_i ks
    show (flat (.agg (sgV (upG ks x)))&& dz [])=true
    unfold flat;rw[BF];rfl
 |k::k'::l,x,h=>by
  cases k<;>simp only[flatSk,aaB] at h
  ·rename_i t
   rw[RS] at h
   show (flat (encD R t x.1)&& dz (encSL R (k'::l) x.2))=true
   rw[G6 (k'::l) x.2 h.2]
   have:=h.1
   cases t<;>simp only[flatT,aaB] at this<;>rfl
  ·rename_i ks
   show (flat (.agg (sgV (upG ks x.1)))&& dz (encSL R (k'::l) x.2))=true
   rw[G6 (k'::l) x.2 h]
   unfold flat;rw[BF];rfl
omit hR in
theorem YD {vs:List V} (h:dz vs=true):flat (retV vs)=true:=by
 match vs with
 | []=>simp[retV,flat,dz]
 | [v]=>simp only[dz,Bool.and_true] at h;exact h
 |v::w::vs=>show flat (.tup _)=true;unfold flat;exact h
mutual
theorem G7:∀(k:Sk) (x:PayS R.T k),cSk k=true->Rl R ρ top (up R .sh k x) (encS R k x)
 |.d t,x,_=>Mf hR t x
 |.l c t,x,h=>by
  refine⟨.sh,rfl,?_⟩
  cases c<;>first|trivial|rfl| (simp[cSk] at h;done)
 |.agg l,x,h=>⟨_,rfl,kG l x (by unfold cSk at h;exact h)⟩
 |.cref l off,x,h=>⟨_,rfl,kG l x (by unfold cSk at h;exact h)⟩
 |.mapc k e,x,_=>rfl
 |.fn f a b,x,h=>by
  unfold cSk at h
  rw[RS] at h
  exact⟨_,_,rfl,kG a x.1 h.1,kG b x.2 h.2⟩
 |.ref _ _,_,h=>by simp[cSk] at h
 |.mapr _,_,h=>by simp[cSk] at h
 |.nils,_,h=>by simp[cSk] at h
 |.vw _ _,_,h=>by simp[cSk] at h
 |.sub _ _,_,h=>by simp[cSk] at h
 |.sg l,x,_=>rfl
 |.undef,_,h=>by simp[cSk] at h
theorem kG:∀(l:List Sk) (x:PayL R.T l),cSkL l=true->RlL R ρ top (upL R .sh l x) (encSL R l x)
 | [],_,_=>rfl
 | [k],x,h=>by
   unfold cSkL at h
   rw[RS] at h
   exact .cons' (G7 k x h.1) rfl
 |k::k'::l,x,h=>by
  unfold cSkL at h
  rw[RS] at h
  exact .cons' (G7 k x.1 h.1) (kG (k'::l) x.2 h.2)
end
omit hR in
theorem YE {x:List (TV R.T)} {v:List V} (h:RlL R ρ top x v):Rl R ρ top (retT R x) (retV v):=by
 match x,h with
 | [],h=>rw[h.inv_nil];exact⟨[],rfl,rfl⟩
 | [a],h=>
   obtain⟨v,vs,rfl,h1,h2⟩:=h.inv_cons
   rw[h2.inv_nil];exact h1
 |a::b::l,h=>
  obtain⟨v,vs,rfl,h1,h2⟩:=h.inv_cons
  obtain⟨w,ws,rfl,h3,h4⟩:=h2.inv_cons
  exact⟨_,rfl,.cons' h1 (.cons' h3 h4)⟩
def NA:List V->List V
 |_::l=>.lst .nil []::l
 | []=>[]
def RegsOK (E:Env) (F:Nat->List (FR R)):Prop:=∀f,∀r∈F f,∀p x,r.F p=some x->(cSkL r.args=true->Pure E f (encSL R r.args p) (retV (encSL R r.res x)))/\
 (r.own=true->∀(τ:Ty) (h:r.res=[.d (.slice τ)]) (l:List (Den R.T τ)),(h▸x:PayL R.T [.d (.slice τ)])=l->
   (cSkL r.args=true->E.ownN f=false/\gY E f (encSL R r.args p) (szD R τ) (l.map (encD R τ)))/\
   (cSkL r.args=false->E.ownN f=true/\gY E f (NA (encSL R r.args p)) (szD R τ) (l.map (encD R τ))))
theorem NC {F:Nat->List (FR R)} (hF:RegsOK E F) {f:Nat} {c:Call} {fo:Operand} {o:Oper} {aj:Nat} {a' b':List V} (ho:o.op= .call c) (aQ:c.callee= .value fo) (hf:fr.ev E fo= .fn (.func f) a' b') (hi:E.imp f=false) {args:List (TV R.T)}
 (ha:RlL R ρ σ.top args (a'++c.args.toList.map (fr.ev E)++b')) (hi':ak ρ b st fr σ):∀{l:List (FR R)} {r:Res R},(∀x∈l,x∈F f)->findF R args (cloMs st args) l=some r->gL E st ρ aj fr σ o r
 | [],r,_,h=>by cases h
 |q::l,r,hl,h=>by
  unfold findF at h
  split at h
  ·rename_i p hp
   obtain⟨hc,h⟩:=aM h
   cases h
   simp only[RS] at hc
   obtain⟨⟨⟨c1,c2⟩,c3⟩,c4⟩:=hc
   intro x hx
   have hP:=(hF f q (hl q (by simp)) p x hx).1 c1
   obtain⟨vs',v1,v2⟩:=xM hR hi' ha
   have xR:=iN hR q.args p (cloMs st args) _ c1 hp v1 20 σ (by have:=ae2 c2;omega)
   have has:=(v2 16).trans xR
   have hcl:((a'++c.args.toList.map (fr.ev E)++b').all (fun x=>pclean (er x))||flat (retV (encSL R q.res x)))=true:=by
    rw[afp] at c4⊢
    rcases c4 with c4|c4
    ·exact .inl (xQ hR c4 ha)
    ·exact .inr (YD (G6 hR _ _ c4))
   exact⟨retV (encSL R q.res x),⟨fun aN _ _ _ hw h'=>OW.call hw ho aQ hf hi has hP hcl h' (MV ho aQ hf aN),fun aN _ _ _ _ _ hw h'=>FW'.call hw ho aQ hf hi has hP hcl h' (MV ho aQ hf aN)⟩,YE (kG hR _ _ c3)⟩
  ·exact NC hF ho aQ hf hi ha hi' (fun x hx=>hl x (by simp[hx])) h
theorem YF {t:TypeId} {x i:TV R.T} {v w:V} {r:Res R} (h:iaM E R t x i=some r) (hx:Rl R ρ top x v) (hi:Rl R ρ top i w):fI ρ top (indexAddrV E.P t v w) r:=by
 unfold iaM at h
 split at h
 ·rename_i e c u l k n hu
  split at h
  ·rename_i sz hs
   obtain⟨hb,h⟩:=aM h
   cases h
   have:=aP hb;subst this
   obtain⟨c',rfl,_⟩:=hx.dB
   rw[hi.inv_int]
   intro a ha
   refine⟨.cref (encD R u a).cells 0,?_,?_⟩
   ·rw[F9,if_pos (by unfold isSliceT;rw[hu])]
    have:elemT E.P t=some e:=by unfold elemT;rw[hu]
    rw[this];simp only[Option.bind_some,hs,ha]
    rw[if_pos (tO hR u a).1]
   ·unfold Rl
    refine⟨_,rfl,(iL ?_ (Mf hR u a)).1⟩
    cases u<;>rfl
  ·cases h
 ·rename_i n e o off k m hu
  split at h
  ·rename_i sz hs
   cases h
   obtain⟨s,h1,rfl⟩:=hx.fU
   rw[hi.inv_int]
   intro hc
   have hc':0<=m/\m<n:=of_decide_eq_true hc
   refine⟨.ref (ρ.om.lc o) s (off+m.toNat*sz),?_,by unfold Rl;exact⟨s,h1,rfl⟩⟩
   unfold indexAddrV;rw[hu];dsimp only;rw[hs]
   simp[idx,dP,hc']
  ·cases h
 ·rename_i n e cs off k m hu
  split at h
  ·rename_i sz hs
   cases h
   obtain⟨l,rfl,h1⟩:=hx.iI
   rw[hi.inv_int]
   intro hc
   have hc':0<=m/\m<n:=of_decide_eq_true hc
   refine⟨.cref l (off+m.toNat*sz),?_,by unfold Rl;exact⟨l,rfl,h1⟩⟩
   unfold indexAddrV;rw[hu];dsimp only;rw[hs]
   simp[idx,dP,hc']
  ·cases h
 ·cases h
omit hR in
theorem YG {t:TypeId} {x i:TV R.T} {v w:V} {r:Res R} (h:ixM E R t x i=some r) (hx:Rl R ρ top x v) (hi:Rl R ρ top i w):fI ρ top (pG E.P t v w) r:=by
 unfold ixM at h
 split at h
 ·rename_i s k n hu
  cases h
  rw[hx.eH,hi.inv_int]
  intro a ha
  refine⟨.int .u8 ((a.toNat:Nat):Int),?_,by unfold Rl;rfl⟩
  rw[L8 (by unfold isStrT;rw[hu]),ha];rfl
 ·cases h
end
end Aq
end
