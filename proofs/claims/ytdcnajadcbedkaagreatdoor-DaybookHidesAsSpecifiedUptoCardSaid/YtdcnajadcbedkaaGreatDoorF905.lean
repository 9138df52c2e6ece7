import Derived.Test.YtdcnajadcbedkaaGreatDoorF904
set_option linter.all false
section
namespace aR
open Go Go.RowKit
theorem exists_least {p:Nat->Prop}(h:∃n,p n):∃n,p n/\∀m,p m->n<=m:=by
 obtain⟨n,hn⟩:=h;induction n using Nat.strongRecOn with
 |_ n ih=>
  by_cases hm:∃m,m<n/\p m
  .obtain⟨m,hm1,hm2⟩:=hm;exact ih m hm1 hm2
  .exact⟨n,hn,fun m hm'=>Classical.byContradiction fun hlt=>hm ⟨m,RS,hm'⟩⟩
open Classical in
noncomputable def least (p:Nat->Prop):Nat:=if h:∃n,p n then (exists_least h).choose else 0
theorem aiq {p:Nat->Prop}(h:∃n,p n):p (least p)/\∀m,p m->least p<=m:=by unfold least;rw[dif_pos h];exact(exists_least h).choose_spec
theorem as1 {F:Fence}{rm:Nat}{P:Program}{Q:Exit->Act->World->Prop}{a:Act}{w:World}{c:Code}(I:Nat->Act->World->Prop)(n₀:Nat)(h₀:I n₀ a w)(round:∀n a w,I n a w->c.wpIn F rm P (Exit.then (fun a' w'=>∃n',n'<n/\I n' a' w') Q) a w):(Code.loop c).wpIn F rm P Q a w:=by
 refine wpIn_loop (fun a w=>∃n,I n a w) (fun a w=>least (fun n=>I n a w)) ⟨n₀,h₀⟩ ?_;intro a w hI;refine wpIn_mono (round _ a w (aiq hI).1) ?_;intro e a' w' hq;cases e with
 |normal=>obtain⟨n',hlt,hI'⟩:=hq;exact show (∃n,I n a' w')/\least (fun n=>I n a' w')<least (fun n=>I n a w) from ⟨⟨n',hI'⟩,Nat.lt_of_le_of_lt ((aiq ⟨n',hI'⟩).2 n' hI') hlt⟩
 |exit id=>exact hq|goto l=>exact hq|ret=>exact hq|panic ch=>exact hq|outgrown=>exact hq
section
variable {E:Env}
def air (E:Env)(code:Code->Fr->ah->Option (Ex×Fr×ah))(c:Code):Prop:=∀fr Y e fr' Y',code c fr Y=some (e,fr',Y')->qm E c fr Y e fr' Y'
theorem as2 (hE:o7 E)(n:Nat)(hS:∀m,m<=n->Sound E (bJ E m)):∀c,air E (eu E (bJ E n)) c:=by
 intro c;induction c with
 |skip=>intro fr Y e fr' Y' h;simp only[eu,iE,mF] at h;obtain⟨rfl,rfl,rfl⟩:=h;exact arf
 |region id ops dr=>intro fr Y e fr' Y' h;exact asO hE (hS n (iR _)) h|seq x y MK ihy=>
  intro fr Y e fr' Y' h;simp only[eu,iP] at h;obtain⟨⟨e1,bK,aB⟩,h1,h⟩:=h;cases e1 with
  |normal=>exact arl (MK _ _ _ _ _ h1) (ihy _ _ _ _ _ h)|exit i=>simp only[iE,mF] at h;obtain⟨rfl,rfl,rfl⟩:=h;exact ahI aD (MK _ _ _ _ _ h1)
  |ret=>simp only[iE,mF] at h;obtain⟨rfl,rfl,rfl⟩:=h;exact ahI aD (MK _ _ _ _ _ h1)
 |cond c x y MK ihy=>
  intro fr Y e fr' Y' h;simp only[eu,iP] at h;obtain⟨t,ht,h⟩:=h;refine arn ht ?_;cases t
  .exact ihy _ _ _ _ _ zl
  .exact MK _ _ _ _ _ zl
 |block id c ih=>
  intro fr Y e fr' Y' h;simp only[eu,aZ] at h;obtain⟨⟨e1,bK,aB⟩,h1,h⟩:=h;have:=aro (id:=id) (ih _ _ _ _ _ h1);cases e1 with
  |normal=>simp only[mF] at h;obtain⟨rfl,rfl,rfl⟩:=h;exact this
  |ret=>simp only[mF] at h;obtain⟨rfl,rfl,rfl⟩:=h;exact this
  |exit i=>
   simp only[WW] at this;simp only at h;split at h
   .rename_i hi;simp only[mF] at h;obtain⟨rfl,rfl,rfl⟩:=h
    rwa[if_pos hi] at this
   .rename_i hi;simp only[mF] at h;obtain⟨rfl,rfl,rfl⟩:=h
    rwa[if_neg hi] at this
 |loop c ih=>
  intro fr Y e fr' Y' h;have hm:(bJ E (n+1)).code (.loop c) fr Y=some (e,fr',Y'):=h;have hbody:∀k,k<=n->air E (eu E (bJ E k)) c:=by
   intro k hk;by_cases hkn:k=n
   .subst hkn;exact ih
   .intro fr Y e fr' Y' hc;exact(hS (k+1) RS).code c fr Y e fr' Y' hc
  have hnext:∀(k:Nat)(fr:Fr)(Y:ah),k<=n+1->(bJ E k).code (.loop c) fr Y=some (e,fr',Y')->Y.next<=Y'.next:=by
   intro k;induction k with
   |zero=>intro fr Y _ hh;cases hh|succ k ihk=>
    intro fr Y hk hh;have hh':eu E (bJ E k) (.loop c) fr Y=some (e,fr',Y'):=hh;simp only[eu,iP] at hh';obtain⟨⟨e1,bK,aB⟩,h1,h2⟩:=hh';have hb:=(hbody k RS _ _ _ _ _ h1).1;cases e1 with
    |normal=>exact eX hb (ihk bK aB RS h2)|exit i=>simp only[iE,mF] at h2;obtain⟨_,_,rfl⟩:=h2;exact hb
    |ret=>simp only[iE,mF] at h2;obtain⟨_,_,rfl⟩:=h2;exact hb
  refine⟨hnext (n+1) fr Y (iR _) hm,fun ro B0 K w a sz ds hs hok hnr=>?_⟩;refine as1 (fun m a1 w1=>m<=n+1/\∃bK aB K1,(bJ E m).code (.loop c) bK aB=some (e,fr',Y')/\St E B0 aB K1 w1 bK a1 sz ds/\Step E B0 (newer Y aB) Y K w aB K1 w1/\Y.next<=aB.next) (n+1)
   ⟨iR _,fr,Y,K,hm,hs,.refl hs.ok,iR _⟩ ?_
  rintro m a1 w1 ⟨hmn,bK,aB,K1,hcode,hs1,st1,hle1⟩;cases m with
  |zero=>cases hcode|succ k=>
   have hh':eu E (bJ E k) (.loop c) bK aB=some (e,fr',Y'):=hcode;simp only[eu,iP] at hh';obtain⟨⟨e2,jf,dn⟩,h1,h2⟩:=hh';obtain⟨hle2,hwp⟩:=hbody k RS _ _ _ _ _ h1;refine wpIn_mono (hwp ro B0 K1 w1 a1 sz ds hs1 hok hnr) ?_;rintro x a2 w2 ⟨hx,K2,hs2,st2⟩;cases e2 with
   |normal=>
    cases x<;>simp only[nQ] at hx;exact⟨k,EF k,RS,jf,dn,K2,h2,hs2,st1.widen st2 hle1 hle2,eX hle1 hle2⟩
   |exit i=>simp only[iE,mF] at h2;obtain⟨rfl,rfl,rfl⟩:=h2;cases x<;>simp only[nQ] at hx;exact⟨hx,K2,hs2,st1.widen st2 hle1 hle2⟩
   |ret=>simp only[iE,mF] at h2;obtain⟨rfl,rfl,rfl⟩:=h2;cases x<;>simp only[nQ] at hx;exact⟨trivial,K2,hs2,st1.widen st2 hle1 hle2⟩
 |rangeFunc f ps x y=>intro fr Y e fr' Y' h;exact asT hE (hS n (iR _)) h|exit id=>intro fr Y e fr' Y' h;simp only[eu,iE,mF] at h;obtain⟨rfl,rfl,rfl⟩:=h;exact arh id
 |scope c ih=>intro fr Y e fr' Y' h;simp only[eu] at h;exact ark (ih _ _ _ _ _ h)|label l=>intro fr Y e fr' Y' h;simp only[eu,iE,mF] at h;obtain⟨rfl,rfl,rfl⟩:=h;exact arj l
 |goto l=>intro fr Y e fr' Y' h;simp[eu] at h|ret=>intro fr Y e fr' Y' h;simp only[eu,iE,mF] at h;obtain⟨rfl,rfl,rfl⟩:=h;exact ari
 |refuse why=>intro fr Y e fr' Y' h;simp[eu] at h
variable {B0:Nat}{Y:ah}{K:bB}{w:World}{fr:Fr}
def ML (tmps:Array Value):ResultVar->Sem Value
 |.tmp t=>pure (tmps.getD t undef)|.cell a t=>do loadVar t (<-asAddr (tmps.getD a undef))
theorem as3 (h:bH E B0 Y K w){tmps:Array Value}(hf:mR K Y.top w fr tmps){r:ResultVar}{v:V}(hv:jF E fr Y r=some v):
 ∃c,(ML tmps r).run E.P w= .ok c w/\Rel K Y.top w v c:=by
 cases r with
 |tmp t=>simp only[jF,iE] at hv;subst hv;exact⟨_,rfl,hf t⟩|cell a t=>
  simp only[jF] at hv;have ha:=hf a;cases hx:fr.tm a with
  |ref loc s off=>
   rw[hx] at hv ha;simp only at hv;obtain⟨c,h1,h2⟩:=WG h (t:=t) ha (v:=v) hv;simp only[ML];generalize tmps.getD a undef=ca at h1 ha;cases ha with
   |ref _ _ _ hA=>refine⟨c,?_,h2⟩;simpa [Instr.loadAt,Instr.sureAddr,asAddr] using h1
  |_=>rw[hx] at hv;simp at hv
theorem ais (h:bH E B0 Y K w){tmps:Array Value}(hf:mR K Y.top w fr tmps):∀(rs:List ResultVar)(vs:List V),rs.mapM (jF E fr Y)=some vs->
 ∃cs:List Value,(rs.mapM (ML tmps)).run E.P w= .ok cs w/\vs.length=cs.length/\
  ∀i,i<vs.length->Rel K Y.top w (vs.getD i aP) (cs.getD i undef):=by
 intro rs;induction rs with
 |nil=>intro vs hv;simp at hv;subst hv;exact⟨[],aD,rfl,fun i hi=>absurd hi (gQ i)⟩
 |cons r rs ih=>
  intro vs hv;simp only[iM,Option.pure_def,Option.bind_eq_bind,iP,iE] at hv;obtain⟨v,h1,vs',h2,rfl⟩:=hv;obtain⟨c,g1,g2⟩:=as3 h hf h1;obtain⟨cs,k1,k2,k3⟩:=ih vs' h2;refine⟨c::cs,?_,by simp[k2],fun i hi=>?_⟩
  .simp only[iM,Sem.run_bind,g1,Result.andThen_ok,k1,Sem.run_pure]
  .cases i with
   |zero=>exact g2|succ i=>exact k3 i kg
theorem as4 {fn:Func}{tmps:Array Value}{R:Ending->World->Prop}{B1:Nat}(hB1:B0<=B1)(qp:Nat->Prop):∀(bs:List Nat)(K:bB)(w:World),bH E B0 Y K w->B0<=w.heap.size->bs.Nodup->(∀b∈bs,K.D b/\B1<=b)->(∀b,qp b->K.D b)->(∀b,qp b->b<B1)->(∀w1,Step E B0 (fun _=>False) Y {K with D:=qp} w Y {K with D:=qp} w1->LeavesIn Fence.wide 0 E.P fn tmps R [] .returning w1)->LeavesInM Fence.wide 0 E.P fn tmps R (bs.map mark) .returning w:=by
 intro bs;induction bs with
 |nil=>intro K w h _ _ _ hk _ hl;refine hl w (.refl (h.RJ qp (fun b hb=>h.D b (hk b hb))))
 |cons b bs ih=>
  intro K w h hB hnd hbs hk hlt hl;obtain⟨hb,MN⟩:=hbs b aD;have hheap:=h.D b hb;have hput:=bH.RL (Y':=Y) (new:=fun _=>False) (o':=.deferred none) h hB (eX hB1 MN) hheap (fun _ _ _=>aD) (fun _ _=>aD)
   (fun l r hl=>by obtain⟨_,_,_,_,_,_,hh,_⟩:=h.loop l r hl;exact⟨hl,wO hh hheap aD⟩) rfl rfl
  have ok1:bH E B0 Y {K with D:=fun x=>K.D x/\x≠b} (w.putObj b (.deferred none)):=by
   have ho:=Xc w b (.deferred none);have h0:bH E B0 Y {K with D:=fun _=>False} w:=h.RJ _ (fun b hb=>hb.elim);have hp:=(bH.RL (Y':=Y) (new:=fun _=>False) (o':=.deferred none) h0 hB (eX hB1 MN) hheap (fun _ _ _=>aD) (fun _ _=>aD)
    (fun l r hl=>by obtain⟨_,_,_,_,_,_,hh,_⟩:=h.loop l r hl;exact⟨hl,wO hh hheap aD⟩) rfl rfl (fun _=>False) (fun x hx=>hx.elim) (fun _ h=>h)).2
   exact hp.RJ (fun x=>K.D x/\x≠b) (fun x hx=>by rw[World.putObj_heap_other hx.2];exact h.D x hx.1)
  refine⟨aD,.inl ⟨b,w.putObj b (.deferred none),rfl,run_takeDeferred hheap,?_⟩⟩;refine ih {K with D:=fun x=>K.D x/\x≠b} (w.putObj b (.deferred none)) ok1 (by simpa using hB) (Az.1 hnd).2
   (fun x hx=>⟨⟨(hbs x (by simp[hx])).1,fun e=>(Az.1 hnd).1 (e▸hx)⟩,(hbs x (by simp[hx])).2⟩) (fun x hx=>⟨hk x hx,fun e=>by have:=hlt x hx;omega⟩) hlt (fun w1 st=>hl w1 ?_)
  have Xv:bH E B0 Y {K with D:=qp} w:=h.RJ qp (fun b hb=>h.D b (hk b hb));have st0:=(bH.RL (Y':=Y) (new:=fun _=>False) (o':=.deferred none) Xv hB (eX hB1 MN) hheap (fun _ _ _=>aD) (fun _ _=>aD)
   (fun l r hl=>by obtain⟨_,_,_,_,_,_,hh,_⟩:=h.loop l r hl;exact⟨hl,wO hh hheap aD⟩) rfl rfl qp (fun x hx=>⟨hx,fun e=>by have h1:x<B1:=hlt x hx;omega⟩) (fun _ h=>h)).1
  exact st0.trans st
theorem as5 (n:Nat)(hS:H9 E (bJ E n).code):EZ E (qK E (bJ E n)):=by
 intro f args d Y v Y' h;simp only[qK,iP] at h;obtain⟨fn,hfn,c,hc,h⟩:=h;split at h
 .rename_i hok;simp only[iP] at h;obtain⟨⟨e,bK,aB⟩,hcode,h⟩:=h;have hne:e= .normal\/e= .ret:=by
   cases e with
   |normal=>exact .inl rfl|ret=>exact .inr rfl|exit i=>simp at h
  have h':(fn.results.toList.mapM (jF E bK aB)).map (fun vs=>(match vs with| [v]=>v|vs=>.bW vs,aB))=some (v,Y'):=by rcases hne with rfl|rfl<;>exact h
  simp only[aZ,mF] at h';obtain⟨vs,hvs,hv,rfl⟩:=h';obtain⟨hle,hwp⟩:=hS _ _ _ _ _ _ hcode;refine⟨hle,⟨fn,c,hfn,hc⟩,fun ro B0 K w dQ hs hB hA hr=>?_⟩;have hsz:dQ.size=args.length:=hr.1.symm;have hst:St E B0 Y K w {d:=d,aj:=E.aj f,tm:=fun i=>args.getD i aP} {tmps:=dQ++Array.replicate (fn.ntmps-dQ.size) undef,defers:=[]} fn.ntmps ⟨[],w.heap.size,false⟩:=by
   refine⟨hs,hB,fun t=>?_,dz,⟨[],rfl,List.nodup_nil,(fun b hb=>by cases hb),fun _=>rfl⟩,hA,iR _⟩;show Rel K Y.top w (args.getD t aP) _;by_cases ht:t<args.length
   .have e1:(dQ++Array.replicate (fn.ntmps-dQ.size) undef).getD t undef=dQ.getD t undef:=(by simp only[zn];rw[Array.getElem?_append_left RS]);rw[e1];exact hr.2 t ht
   .have e1:(dQ++Array.replicate (fn.ntmps-dQ.size) undef).getD t undef=undef:=(by simp only[zn];rw[Array.getElem?_append_right RS,Array.getElem?_replicate];split<;>rfl);have e2:args.getD t aP=aP:=(by simp[List.getD,List.getElem?_eq_none (Nat.le_of_not_lt ht)]);rw[e1,e2];exact .undef _ _ _
  have hwp':=hwp none B0 K w _ fn.ntmps ⟨[],w.heap.size,false⟩ hst hok.2 (.inl ⟨rfl,rfl⟩);have Xw:CallsIn Fence.wide 0 E.P f dQ w (wS E B0 Y K w v aB):=by
   refine callsIn_of_wp_marks hfn hc trivial (wpIn_mono hwp' ?_);rintro x a' w' ⟨hx,K',hs',st'⟩;have hleave:LeavesInM Fence.wide 0 E.P fn a'.tmps (wS E B0 Y K w v aB) a'.defers .returning w':=by
    obtain⟨bs,d1,d2,d3,_⟩:=hs'.df;rw[d1,jG];refine as4 (B1:=w.heap.size) hB K.D bs K' w' hs'.ok hs'.hB d2 d3 st'.D (fun b hb=>lt_of_heap (hs.D b hb)) (fun w1 RQ=>?_);have Io:=RQ.ok;have hf2:mR {K' with D:=K.D} aB.top w1 bK a'.tmps:=(by have e1:Ext K' aB.top w' {K' with D:=K.D} aB.top w1:=(Xu K' aB.top w' K.D).trans RQ.ext;exact hs'.fr.ext e1);obtain⟨cs,k1,k2,k3⟩:=ais Io hf2 fn.results.toList vs hvs;have hrun:(results fn a'.tmps).run E.P w1= .ok (if h:cs.toArray.size=1 then cs.toArray[0] else .tuple cs.toArray) w1:=(by have hres:results fn a'.tmps=(do let vs<-fn.results.mapM (ML a'.tmps);pure (if h:vs.size=1 then vs[0] else .tuple vs)):=rfl;rw[hres,Array.mapM_eq_mapM_toList];simp only[Sem.run_bind,Sem.run_map,k1,Result.andThen_ok,Sem.run_pure]);have Ru:Step E B0 (newer Y aB) Y K w aB {K' with D:=K.D} w1:=
     ⟨Io,st'.ext.trans ((Xu K' aB.top w' K.D).trans RQ.ext),st'.below.trans RQ.below,fun _ h=>h,st'.A,st'.zy,st'.zA⟩
    refine⟨_,hrun,{K' with D:=K.D},?_,Io,hs'.st,Ru⟩;rw[<-hv];cases vs with
    |nil=>have:cs=[]:=QU;subst this;exact .bW [] #[] rfl (fun i hi=>absurd hi (gQ i))
    |cons v1 vs=>
     cases cs with
     |nil=>simp at k2|cons c1 cs=>
      cases vs with
      |nil=>have:cs=[]:=QU;subst this;have:=k3 0 aD;simpa using this|cons v2 vs=>have hsz2:¬((c1::cs).toArray.size=1):=(by simp only[List.length_cons,Nat.add_right_cancel_iff] at k2;rw[List.size_toArray,List.length_cons];omega);rw[dif_neg hsz2];refine .bW _ _ (by simpa using k2) (fun i hi=>?_);have:=k3 i hi;simpa [zn,List.getD] using this
   rcases hne with rfl|rfl<;>cases x<;>simp only[nQ] at hx<;>exact hleave
  exact Xw
 .simp at h
theorem RU (hE:o7 E):∀n,Sound E (bJ E n):=by
 have all:∀n m,m<=n->Sound E (bJ E m):=by
  intro n;induction n with
  |zero=>
   intro m hm;obtain rfl:m=0:=RS
   exact⟨(fun _ _ _ _ _ _ h=>dh),(fun _ _ _ _ _ _ h=>dh)⟩
  |succ n ih=>
   intro m hm;by_cases hmn:m<=n
   .exact ih m hmn
   .obtain rfl:m=n+1:=RS;exact⟨fun c fr Y e fr' Y' h=>as2 hE n ih c fr Y e fr' Y' h,as5 n (ih n (iR _)).code⟩
 exact fun n=>all n n (iR _)
theorem as6 (hE:o7 E){n:Nat}{f:FuncId}{args:List V}{v:V}(h:mP E (bJ E n) f args=some v):rJ E f args v:=ahM hE (RU hE n).call h
end
end aR
end
section
namespace aR
open Go
section
variable {E:Env}
def jJ (S T:iV):Prop:=(∀c fr Y r,S.code c fr Y=some r->T.code c fr Y=some r)/\∀f args d Y r,S.call f args d Y=some r->T.call f args d Y=some r
variable {S T:iV}
theorem Ip (h:jJ S T){f:FuncId}{args:List V}{v:V}(hc:mP E S f args=some v):mP E T f args=some v:=by
 unfold mP at hc⊢;cases hg:E.mO f with
 |some g=>simp only[hg] at hc⊢;exact hc|none=>simp only[hg,iP] at hc⊢;obtain⟨x,h1,h2⟩:=hc;exact⟨x,h.2 _ _ _ _ _ h1,h2⟩
theorem Xx (h:jJ S T){l:Nat}{args:List V}{Y:ah}{r:V×ah}(hc:yt S l args Y=some r):yt T l args Y=some r:=by
 unfold yt at hc⊢;simp only[iP] at hc⊢;obtain⟨r0,hl,hc⟩:=hc;refine⟨r0,hl,?_⟩;split at hc
 .rename_i hst;rw[if_pos hst];simp only[iP] at hc⊢;obtain⟨⟨e1,bK,aB⟩,Mt,hc⟩:=hc;refine⟨(e1,bK,aB),h.1 _ _ _ _ Mt,?_⟩;cases e1 with
  |normal=>
   simp only[iP] at hc⊢;obtain⟨r1,hl1,hc⟩:=hc;refine⟨r1,hl1,?_⟩;split at hc
   .rename_i Ib;rw[if_pos Ib];simp only[iP] at hc⊢;obtain⟨x,hb,y,hy,hc⟩:=hc;exact⟨x,h.1 _ _ _ _ hb,y,hy,hc⟩
   .simp at hc
  |exit i=>simp at hc|ret=>simp at hc
 .simp at hc
theorem ait (h:jJ S T){d:Nat}{Y:ah}{fv:V}{args:List V}{r:V×ah}(hc:jO E S d Y fv args=some r):jO E T d Y fv args=some r:=by
 unfold jO at hc⊢;split at hc
 .split at hc
  .rename_i hi;simp only[hi,if_true];exact h.2 _ _ _ _ _ hc
  .rename_i hi;simp only[iP] at hc;obtain⟨dP,h1,v,h2,h3⟩:=hc;simp only[hi,h1,Option.bind_some,Ip h h2];exact h3
 .exact Xx h hc
 .simp at hc
theorem aiu (h:jJ S T){Y:ah}{st:Nat}{fv:V}{args:List V}{r:V×ah}(hc:qJ E S Y st fv args=some r):qJ E T Y st fv args=some r:=by
 unfold qJ at hc⊢;split at hc
 .split at hc
  .rename_i hi;simp only[iP] at hc;obtain⟨dP,h1,v,h2,h3⟩:=hc;simp only[hi,if_true,h1,Option.bind_some,h.2 _ _ _ _ _ h2];exact h3
  .cases hc
 .cases hc
theorem Xy (h:jJ S T){fr:Fr}{Y:ah}{st:Nat}{o:Oper}{r:V×Fr×ah}(hc:opC E S fr Y st o=some r):opC E T fr Y st o=some r:=by
 unfold opC at hc⊢;split at hc
 .rename_i c ho;simp only[ho] at hc⊢;split at hc
  .exact hc
  .rename_i f hf;split at hc
   .rename_i eZ;simp only[eZ,if_true];simp only[aZ] at hc⊢;obtain⟨x,h1,h2⟩:=hc;exact⟨x,aiu h h1,h2⟩
   rename_i eZ;simp only[eZ,if_false,dI];simp only[aZ] at hc⊢;obtain⟨x,h1,h2⟩:=hc;exact⟨x,ait h h1,h2⟩
  .simp at hc
 .simp at hc
 .exact hc
theorem MO (h:jJ S T)(all:List Oper):∀(os:List Oper)(st:Nat)(fr:Fr)(Y:ah)(r:Fr×ah),opsE E S all st os fr Y=some r->opsE E T all st os fr Y=some r:=by
 intro os;induction os with
 |nil=>intro st fr Y r hc;exact hc|cons o os ih=>
  intro st fr Y r hc;simp only[opsE,iP] at hc⊢;obtain⟨t,h1,h2⟩:=hc;refine⟨t,h1,?_⟩;cases t with
  |true=>simp only[if_true,iP] at h2⊢;obtain⟨x,h3,h4⟩:=h2;exact⟨x,Xy h h3,ih _ _ _ _ h4⟩
  |false=>simp only[dI,if_false] at h2⊢;exact ih _ _ _ _ h2
theorem RV (h:jJ S T)(all:List Oper):∀(os:List Oper)(st:Nat)(fr:Fr)(Y:ah)(r:List dR×Fr×ah),mQ E S all st os fr Y=some r->mQ E T all st os fr Y=some r:=by
 intro os;induction os with
 |nil=>intro st fr Y r hc;exact hc|cons o os ih=>
  intro st fr Y r hc;simp only[mQ,iP] at hc⊢;obtain⟨t,h1,h2⟩:=hc;refine⟨t,h1,?_⟩;cases t with
  |true=>simp only[if_true,iP,aZ] at h2⊢;obtain⟨x,h3,y,h4,h5⟩:=h2;exact⟨x,Xy h h3,y,ih _ _ _ _ h4,h5⟩
  |false=>simp only[dI,if_false,aZ] at h2⊢;obtain⟨y,h4,h5⟩:=h2;exact⟨y,ih _ _ _ _ h4,h5⟩
theorem MP (h:jJ S T){ops:List Oper}{base i:Nat}{fr:Fr}{Y:ah}{r:Fr×ah}(hc:jr E S ops base i fr Y=some r):jr E T ops base i fr Y=some r:=by
 unfold jr at hc⊢;split at hc
 .exact hc
 .simp only[iP] at hc⊢;obtain⟨t,h1,h2⟩:=hc;refine⟨t,h1,?_⟩;cases t with
  |true=>simp only[if_true,aZ] at h2⊢;obtain⟨x,h3,h4⟩:=h2;exact⟨x,Xy h h3,h4⟩
  |false=>simpa using h2
theorem as7 (h:jJ S T){ms:List Nat}{ops:List Oper}{base:Nat}{x y:Fr×ah}(hf:Free E S ms ops base x y):Free E T ms ops base x y:=by obtain⟨s,T',W,h0,hn,E5,hloc,hr⟩:=hf;refine⟨s,T',W,h0,hn,E5,fun i hi x hx=>?_,hr⟩;obtain⟨y,h1,h2⟩:=hloc i hi x hx;exact⟨y,MP h h1,h2⟩
theorem zD (h:jJ S T):∀(c:Code)(fr:Fr)(Y:ah)(r:Ex×Fr×ah),eu E S c fr Y=some r->eu E T c fr Y=some r:=by
 intro c;induction c with
 |region id ops dr=>
  intro fr Y r hc;simp only[eu] at hc⊢;split at hc
  .rename_i hd;simp only[hd,if_true,iP] at hc⊢;obtain⟨x,h1,h2⟩:=hc;refine⟨x,RV h _ _ _ _ _ _ h1,?_⟩;split at h2
   .rename_i hp;rw[if_pos hp];exact h2
   .rename_i hp;rw[if_neg hp];unfold LZ at h2⊢;split at h2
    .rename_i hf;rw[if_pos ⟨hf.1,as7 h hf.2⟩];exact h2
    .cases h2
  .rename_i hd;simp only[hd,dI,if_false,aZ] at hc⊢;obtain⟨x,h1,h2⟩:=hc;exact⟨x,MO h _ _ _ _ _ _ h1,h2⟩
 |seq a b iha ihb=>
  intro fr Y r hc;simp only[eu,iP] at hc⊢;obtain⟨⟨e,bK,aB⟩,h1,h2⟩:=hc;refine⟨(e,bK,aB),iha _ _ _ h1,?_⟩;cases e with
  |normal=>exact ihb _ _ _ h2|exit i=>exact h2|ret=>exact h2
 |cond c a b iha ihb=>
  intro fr Y r hc;simp only[eu,iP] at hc⊢;obtain⟨t,h1,h2⟩:=hc;refine⟨t,h1,?_⟩;cases t with
  |true=>simp only[if_true] at h2⊢;exact iha _ _ _ h2|false=>simp only[dI,if_false] at h2⊢;exact ihb _ _ _ h2
 |block id c ih=>intro fr Y r hc;simp only[eu,aZ] at hc⊢;obtain⟨x,h1,h2⟩:=hc;exact⟨x,ih _ _ _ h1,h2⟩
 |loop c ih=>
  intro fr Y r hc;simp only[eu,iP] at hc⊢;obtain⟨⟨e,bK,aB⟩,h1,h2⟩:=hc;refine⟨(e,bK,aB),ih _ _ _ h1,?_⟩;cases e with
  |normal=>exact h.1 _ _ _ _ h2|exit i=>exact h2|ret=>exact h2
 |rangeFunc f ps a b iha ihb=>
  intro fr Y r hc;simp only[eu] at hc⊢;split at hc
  .rename_i hf;rw[if_pos hf];simp only[iP] at hc⊢;obtain⟨x,h1,h2⟩:=hc;exact⟨x,ait h h1,h2⟩
  .simp at hc
 |scope c ih=>intro fr Y r hc;simp only[eu] at hc⊢;exact ih _ _ _ hc|_=>intro fr Y r hc;simpa [eu] using hc
theorem aiv (h:jJ S T){f:FuncId}{args:List V}{d:Nat}{Y:ah}{r:V×ah}(hc:qK E S f args d Y=some r):qK E T f args d Y=some r:=by
 simp only[qK,iP] at hc⊢;obtain⟨fn,h1,c,h2,h3⟩:=hc;refine⟨fn,h1,c,h2,?_⟩;split at h3
 .rename_i hok;rw[if_pos hok];simp only[iP] at h3⊢;obtain⟨x,h4,h5⟩:=h3;exact⟨x,h.1 _ _ _ _ h4,h5⟩
 .simp at h3
theorem as8:∀n,jJ (bJ E n) (bJ E (n+1)):=by
 intro n;induction n with
 |zero=>exact⟨(fun _ _ _ _ h=>dh),(fun _ _ _ _ _ h=>dh)⟩
 |succ n ih=>exact⟨fun c fr Y r h=>zD ih c fr Y r h,fun f args d Y r h=>aiv ih h⟩
theorem jJ.refl (S:iV):jJ S S:=⟨fun _ _ _ _ h=>h,fun _ _ _ _ _ h=>h⟩
theorem jJ.trans {S T aiw:iV}(h:jJ S T)(g:jJ T aiw):jJ S aiw:=⟨fun _ _ _ _ x=>g.1 _ _ _ _ (h.1 _ _ _ _ x),fun _ _ _ _ _ x=>g.2 _ _ _ _ _ (h.2 _ _ _ _ _ x)⟩
theorem jP {n m:Nat}(h:n<=m):jJ (bJ E n) (bJ E m):=by
 induction m with
 |zero=>obtain rfl:n=0:=RS
        exact .refl _
 |succ m ih=>
  by_cases e:n=m+1
  .subst e;exact .refl _
  .exact(ih RS).trans (as8 m)
end
section
variable (E:Env)
def ay (all:List Oper)(st:Nat)(os:List Oper)(fr:Fr)(Y:ah)(Q:Fr->ah->Prop):Prop:=
 ∃n fr' Y',opsE E (bJ E n) all st os fr Y=some (fr',Y')/\Q fr' Y'
def dL (ms:List Nat)(all:List Oper)(st:Nat)(os:List Oper)(fr:Fr)(Y:ah)(fs:List dR)(Q:Fr->ah->Prop):Prop:=
 ∃n fs' fr' Y',mQ E (bJ E n) all st os fr Y=some (fs',fr',Y')/\AP ms (fs++fs')=true/\Q fr' Y'
def aF (c:Code)(fr:Fr)(Y:ah)(Q:Ex->Fr->ah->Prop):Prop:=
 ∃n e fr' Y',eu E (bJ E n) c fr Y=some (e,fr',Y')/\Q e fr' Y'
def Pure (f:FuncId)(args:List V)(v:V):Prop:=∃n,mP E (bJ E n) f args=some v
def iW (f:FuncId)(args:List V)(d:Nat)(Y:ah)(Q:V->ah->Prop):Prop:=∃n v Y',(bJ E n).call f args d Y=some (v,Y')/\Q v Y'
end
section
variable {E:Env}{fr:Fr}{Y:ah}
theorem Pure.ok (hE:o7 E){f:FuncId}{args:List V}{v:V}(h:Pure E f args v):rJ E f args v:=h.elim fun _ h=>as6 hE h
theorem ay.mono {all:List Oper}{st:Nat}{os:List Oper}{Q Q':Fr->ah->Prop}(h:ay E all st os fr Y Q)(hq:∀fr Y,Q fr Y->Q' fr Y):ay E all st os fr Y Q':=
 let ⟨n,fr',Y',h1,h2⟩:=h;⟨n,fr',Y',h1,hq _ _ h2⟩
theorem aF.mono {c:Code}{Q Q':Ex->Fr->ah->Prop}(h:aF E c fr Y Q)(hq:∀e fr Y,Q e fr Y->Q' e fr Y):aF E c fr Y Q':=
 let ⟨n,e,fr',Y',h1,h2⟩:=h;⟨n,e,fr',Y',h1,hq _ _ _ h2⟩
theorem ay.nil {all:List Oper}{st:Nat}{Q:Fr->ah->Prop}(h:Q fr Y):ay E all st [] fr Y Q:=⟨0,fr,Y,rfl,h⟩
theorem ay.op {all:List Oper}{st:Nat}{o:Oper}{os:List Oper}{v:V}{aB:ah}{Q:Fr->ah->Prop}(hw:fM all fr o=some true)(hop:∀S,opC E S fr Y st o=some (v,fr,aB))(h:ay E all (st+1) os (fr.put o.dst v) aB Q):ay E all st (o::os) fr Y Q:=by
 obtain⟨n,fr',Y',h1,h2⟩:=h;exact⟨n,fr',Y',by simp only[opsE,hw,Option.bind_some,if_true,hop,h1],h2⟩
theorem ay.skip {all:List Oper}{st:Nat}{o:Oper}{os:List Oper}{Q:Fr->ah->Prop}(hw:fM all fr o=some false)(h:ay E all (st+1) os (fr.put o.dst aP) Y Q):ay E all st (o::os) fr Y Q:=by obtain⟨n,fr',Y',h1,h2⟩:=h;exact⟨n,fr',Y',by simp only[opsE,hw,Option.bind_some,dI,if_false,h1],h2⟩
theorem Xz {d:Nat}{g:FuncId}{a b args dP:List V}{v:V}{n:Nat}(hi:E.imp g=false)(has:(a++args++b).mapM (bA 20 Y)=some dP)(hp:mP E (bJ E n) g dP=some v)(hc:((a++args++b).all (fun x=>aQ (er x))||flat v)=true):jO E (bJ E n) d Y (.fn (.func g) a b) args=some (v,Y):=by
 unfold jO;simp only[hi,dI,if_false,has,Option.bind_some,hp,hc,if_true]
theorem zF {o:Oper}{f:Operand}{g:FuncId}{a b:List V}(hf:fr.ev E f= .fn (.func g) a b)(h:∀d,o.dst=some d->E.own g d=false):lT E fr o f=false:=by
 unfold lT;rw[hf];cases hd:o.dst with
 |none=>rfl|some d=>exact h d hd
def oH (E:Env)(f:FuncId)(dP:List V)(sz:Nat)(l:List V):Prop:=∃n v aB,(bJ E n).call f dP 1 ah.init=some (v,aB)/\∀st Y,(∃c,(c= .nil\/c= .full)/\rE Y st aB v=some (.ak c l,Y))\/rE Y st aB v=some (.ak (.own sz st) l,Y.eB st l.length)
theorem oH.of {f:FuncId}{dP:List V}{sz:Nat}{l:List V}{n:Nat}{c:Cap}{aB:ah}(h:(bJ E n).call f dP 1 ah.init=some (.ak c l,aB))(hp:cu l=true)(hc:c= .nil\/c= .full\/∃s,c= .own sz s/\aB.top s=l.length):oH E f dP sz l:=by
 refine⟨n,_,aB,h,fun st Y=>?_⟩;rcases hc with rfl|rfl| ⟨s,rfl,ht⟩
 .exact .inl ⟨.nil,.inl rfl,by unfold rE;dsimp only;rw[if_pos hp]⟩
 .exact .inl ⟨.full,.inr rfl,by unfold rE;dsimp only;rw[if_pos hp]⟩
 .exact .inr (by unfold rE;dsimp only;rw[if_pos hp,if_pos ht])
theorem ay.own {all:List Oper}{st:Nat}{o:Oper}{os:List Oper}{Q:Fr->ah->Prop}{c:Call}{f:Operand}{g:FuncId}{a b dP l:List V}{d sz:Nat}(hw:fM all fr o=some true)(ho:o.op= .call c)(fT:c.callee= .value f)(hf:fr.ev E f= .fn (.func g) a b)(hd:o.dst=some d)(hown:E.own g d=true)(has:vg (E.zw g) Y (a++c.args.toList.map (fr.ev E)++b)=some dP)(hp:oH E g dP sz l)(hc:(a++c.args.toList.map (fr.ev E)++b).all (fun x=>aQ (er x))=true)(h1:∀c,c= .nil\/c= .full->ay E all (st+1) os (fr.put o.dst (.ak c l)) Y Q)(h2:ay E all (st+1) os (fr.put o.dst (.ak (.own sz st) l)) (Y.eB st l.length) Q):ay E all st (o::os) fr Y Q:=by
 obtain⟨m,v0,aB,hm,hcp⟩:=hp;have eZ:lT E fr o f=true:=by unfold lT;rw[hf,hd];exact hown
 have go:∀(v:V)(dn:ah),rE Y st aB v0=some (v,dn)->ay E all (st+1) os (fr.put o.dst v) dn Q->ay E all st (o::os) fr Y Q:=by
  rintro v dn hr ⟨n,fr',Y',g1,g2⟩;have hm':=(jP (qG n m)).2 _ _ _ _ _ hm;have g1':=MO (jP (sG n m)) _ _ _ _ _ _ g1;refine⟨max n m,fr',Y',?_,g2⟩;have hov:qJ E (bJ E (max n m)) Y st (.fn (.func g) a b) (c.args.toList.map (fr.ev E))=some (v,dn):=by unfold qJ;dsimp only;rw[if_pos hc,has,Option.bind_some,hm',Option.bind_some];exact hr
  simp only[opsE,hw,Option.bind_some,if_true,opC,ho,fT,eZ];rw[hf,hov];simp only[Option.map_some,Option.bind_some,g1']
 rcases hcp st Y with ⟨c,hc,hr⟩|hr
 .exact go _ _ hr (h1 c hc)
 .exact go _ _ hr h2
theorem ay.call {all:List Oper}{st:Nat}{o:Oper}{os:List Oper}{v:V}{Q:Fr->ah->Prop}{c:Call}{f:Operand}{g:FuncId}{a b dP:List V}(hw:fM all fr o=some true)(ho:o.op= .call c)(fT:c.callee= .value f)(hf:fr.ev E f= .fn (.func g) a b)(hi:E.imp g=false)(has:(a++c.args.toList.map (fr.ev E)++b).mapM (bA 20 Y)=some dP)(hp:Pure E g dP v)(hc:((a++c.args.toList.map (fr.ev E)++b).all (fun x=>aQ (er x))||flat v)=true)(h:ay E all (st+1) os (fr.put o.dst v) Y Q)(eZ:∀d,o.dst=some d->E.own g d=false:=by intros;rfl):ay E all st (o::os) fr Y Q:=by
 obtain⟨n,fr',Y',h1,h2⟩:=h;obtain⟨m,hm⟩:=hp;have hm':=Ip (jP (qG n m)) hm;have h1':=MO (jP (sG n m)) _ _ _ _ _ _ h1;refine⟨max n m,fr',Y',?_,h2⟩;simp only[opsE,hw,Option.bind_some,if_true,opC,ho,fT,zF hf eZ,dI,if_false,hf,Xz hi has hm' hc,Option.map_some,h1']
theorem ay.AY {all:List Oper}{st:Nat}{o:Oper}{os:List Oper}{Q:Fr->ah->Prop}{c:Call}{f:Operand}{g:FuncId}{a b:List V}(hw:fM all fr o=some true)(ho:o.op= .call c)(fT:c.callee= .value f)(hf:fr.ev E f= .fn (.func g) a b)(hi:E.imp g=true)(hp:iW E g (a++c.args.toList.map (fr.ev E)++b) (fr.d+1) Y (fun v aB=>ay E all (st+1) os (fr.put o.dst v) aB Q))(eZ:∀d,o.dst=some d->E.own g d=false:=by intros;rfl):ay E all st (o::os) fr Y Q:=by
 obtain⟨m,v,aB,hm,n,fr',Y',h1,h2⟩:=hp;have hm':=(jP (qG n m)).2 _ _ _ _ _ hm;have h1':=MO (jP (sG n m)) _ _ _ _ _ _ h1;refine⟨max n m,fr',Y',?_,h2⟩;have:jO E (bJ E (max n m)) fr.d Y (.fn (.func g) a b) (c.args.toList.map (fr.ev E))=some (v,aB):=by unfold jO;simp only[hi,if_true];exact hm'
 simp only[opsE,hw,Option.bind_some,if_true,opC,ho,fT,zF hf eZ,dI,if_false,hf,this,Option.map_some,h1']
theorem dL.nil {ms:List Nat}{all:List Oper}{st:Nat}{fs:List dR}{Q:Fr->ah->Prop}(hp:AP ms fs=true)(h:Q fr Y):dL E ms all st [] fr Y fs Q:=⟨0,[],fr,Y,rfl,by simpa using hp,h⟩
theorem dL.op {ms:List Nat}{all:List Oper}{st:Nat}{o:Oper}{os:List Oper}{v:V}{aB:ah}{fs:List dR}{Q:Fr->ah->Prop}(hw:fM all fr o=some true)(hop:∀S,opC E S fr Y st o=some (v,fr,aB))(h:dL E ms all (st+1) os (fr.put o.dst v) aB (fs++[d9 E all fr o true]) Q):dL E ms all st (o::os) fr Y fs Q:=by
 obtain⟨n,fs',fr',Y',h1,h2,h3⟩:=h;exact⟨n,d9 E all fr o true::fs',fr',Y',by simp only[mQ,hw,Option.bind_some,if_true,hop,h1,Option.map_some],uQ,h3⟩
theorem dL.skip {ms:List Nat}{all:List Oper}{st:Nat}{o:Oper}{os:List Oper}{fs:List dR}{Q:Fr->ah->Prop}(hw:fM all fr o=some false)(h:dL E ms all (st+1) os (fr.put o.dst aP) Y (fs++[d9 E all fr o false]) Q):dL E ms all st (o::os) fr Y fs Q:=by
 obtain⟨n,fs',fr',Y',h1,h2,h3⟩:=h;exact⟨n,d9 E all fr o false::fs',fr',Y',by simp only[mQ,hw,Option.bind_some,dI,if_false,h1,Option.map_some],uQ,h3⟩
theorem dL.call {ms:List Nat}{all:List Oper}{st:Nat}{o:Oper}{os:List Oper}{v:V}{fs:List dR}{Q:Fr->ah->Prop}{c:Call}{f:Operand}{g:FuncId}{a b dP:List V}(hw:fM all fr o=some true)(ho:o.op= .call c)(fT:c.callee= .value f)(hf:fr.ev E f= .fn (.func g) a b)(hi:E.imp g=false)(has:(a++c.args.toList.map (fr.ev E)++b).mapM (bA 20 Y)=some dP)(hp:Pure E g dP v)(hc:((a++c.args.toList.map (fr.ev E)++b).all (fun x=>aQ (er x))||flat v)=true)(h:dL E ms all (st+1) os (fr.put o.dst v) Y (fs++[d9 E all fr o true]) Q)(eZ:∀d,o.dst=some d->E.own g d=false:=by intros;rfl):dL E ms all st (o::os) fr Y fs Q:=by
 obtain⟨n,fs',fr',Y',h1,h2,h3⟩:=h;obtain⟨m,hm⟩:=hp;have hm':=Ip (jP (qG n m)) hm;have h1':=RV (jP (sG n m)) _ _ _ _ _ _ h1;refine⟨max n m,d9 E all fr o true::fs',fr',Y',?_,uQ,h3⟩;simp only[mQ,hw,Option.bind_some,if_true,opC,ho,fT,zF hf eZ,dI,if_false,hf,Xz hi has hm' hc,Option.map_some,h1']
theorem dL.own {ms:List Nat}{all:List Oper}{st:Nat}{o:Oper}{os:List Oper}{fs:List dR}{Q:Fr->ah->Prop}{c:Call}{f:Operand}{g:FuncId}{a b dP l:List V}{d sz:Nat}(hw:fM all fr o=some true)(ho:o.op= .call c)(fT:c.callee= .value f)(hf:fr.ev E f= .fn (.func g) a b)(hd:o.dst=some d)(hown:E.own g d=true)(has:vg (E.zw g) Y (a++c.args.toList.map (fr.ev E)++b)=some dP)(hp:oH E g dP sz l)(hc:(a++c.args.toList.map (fr.ev E)++b).all (fun x=>aQ (er x))=true)(h1:∀c,c= .nil\/c= .full->dL E ms all (st+1) os (fr.put o.dst (.ak c l)) Y (fs++[d9 E all fr o true]) Q)(h2:dL E ms all (st+1) os (fr.put o.dst (.ak (.own sz st) l)) (Y.eB st l.length) (fs++[d9 E all fr o true]) Q):dL E ms all st (o::os) fr Y fs Q:=by
 obtain⟨m,v0,aB,hm,hcp⟩:=hp;have eZ:lT E fr o f=true:=by unfold lT;rw[hf,hd];exact hown
 have go:∀(v:V)(dn:ah),rE Y st aB v0=some (v,dn)->dL E ms all (st+1) os (fr.put o.dst v) dn (fs++[d9 E all fr o true]) Q->dL E ms all st (o::os) fr Y fs Q:=by
  rintro v dn hr ⟨n,fs',fr',Y',g1,g2,g3⟩;have hm':=(jP (qG n m)).2 _ _ _ _ _ hm;have g1':=RV (jP (sG n m)) _ _ _ _ _ _ g1;refine⟨max n m,d9 E all fr o true::fs',fr',Y',?_,by simpa using g2,g3⟩;have hov:qJ E (bJ E (max n m)) Y st (.fn (.func g) a b) (c.args.toList.map (fr.ev E))=some (v,dn):=by unfold qJ;dsimp only;rw[if_pos hc,has,Option.bind_some,hm',Option.bind_some];exact hr
  simp only[mQ,hw,Option.bind_some,if_true,opC,ho,fT,eZ];rw[hf,hov];simp only[Option.map_some,Option.bind_some,g1']
 rcases hcp st Y with ⟨c,hc,hr⟩|hr
 .exact go _ _ hr (h1 c hc)
 .exact go _ _ hr h2
theorem dL.AY {ms:List Nat}{all:List Oper}{st:Nat}{o:Oper}{os:List Oper}{fs:List dR}{Q:Fr->ah->Prop}{c:Call}{f:Operand}{g:FuncId}{a b:List V}(hw:fM all fr o=some true)(ho:o.op= .call c)(fT:c.callee= .value f)(hf:fr.ev E f= .fn (.func g) a b)(hi:E.imp g=true)(hp:iW E g (a++c.args.toList.map (fr.ev E)++b) (fr.d+1) Y (fun v aB=>dL E ms all (st+1) os (fr.put o.dst v) aB (fs++[d9 E all fr o true]) Q))(eZ:∀d,o.dst=some d->E.own g d=false:=by intros;rfl):dL E ms all st (o::os) fr Y fs Q:=by
 obtain⟨m,v,aB,hm,n,fs',fr',Y',h1,h2,h3⟩:=hp;have hm':=(jP (qG n m)).2 _ _ _ _ _ hm;have h1':=RV (jP (sG n m)) _ _ _ _ _ _ h1;refine⟨max n m,d9 E all fr o true::fs',fr',Y',?_,uQ,h3⟩;have:jO E (bJ E (max n m)) fr.d Y (.fn (.func g) a b) (c.args.toList.map (fr.ev E))=some (v,aB):=by unfold jO;simp only[hi,if_true];exact hm'
 simp only[mQ,hw,Option.bind_some,if_true,opC,ho,fT,zF hf eZ,dI,if_false,hf,this,Option.map_some,h1']
end
def ah.bump (Y:ah)(k:Nat):ah:={Y with next:=Y.next+k}
section
variable {E:Env}{fr:Fr}{Y:ah}
theorem aF.region {id:Nat}{ops:Array Oper}{Q:Ex->Fr->ah->Prop}(h:ay E ops.toList Y.next ops.toList fr (Y.bump ops.toList.length) (fun fr Y=>Q .normal fr Y)):aF E (.region id ops false) fr Y Q:=by obtain⟨n,fr',Y',h1,h2⟩:=h;exact⟨n,.normal,fr',Y',by simp only[eu,dI,if_false];rw[show opsE E (bJ E n) ops.toList Y.next ops.toList fr {Y with next:=Y.next+ops.toList.length}=some (fr',Y') from h1];rfl,h2⟩
theorem aF.draw {id:Nat}{ops:Array Oper}{Q:Ex->Fr->ah->Prop}(he:ql ops.toList=true)(h:dL E (nZ ops.toList) ops.toList Y.next ops.toList fr (Y.bump ops.toList.length) [] (fun fr Y=>Q .normal fr Y)):aF E (.region id ops true) fr Y Q:=by
 obtain⟨n,fs,fr',Y',h1,h2,h3⟩:=h;refine⟨n,.normal,fr',Y',?_,h3⟩;simp only[eu,if_true];rw[show mQ E (bJ E n) ops.toList Y.next ops.toList fr {Y with next:=Y.next+ops.toList.length}=some (fs,fr',Y') from h1];simp only[Option.bind_some,he,Bool.true_and];rw[if_pos uQ]
def dw (E:Env)(b:Code)(Q:Ex->Fr->ah->Prop)(e:Ex)(fr:Fr)(Y:ah):Prop:=match e with
 |.normal=>aF E b fr Y Q|e=>Q e fr Y
theorem aF.seq {a b:Code}{Q:Ex->Fr->ah->Prop}(h:aF E a fr Y (dw E b Q)):aF E (.seq a b) fr Y Q:=by
 obtain⟨n,e,bK,aB,h1,h2⟩:=h;cases e with
 |normal=>obtain⟨m,e,fr',Y',h3,h4⟩:=h2;refine⟨max n m,e,fr',Y',?_,h4⟩;simp only[eu,zD (jP (sG n m)) _ _ _ _ h1,Option.bind_some,zD (jP (qG n m)) _ _ _ _ h3]
 |exit i=>exact⟨n,.exit i,bK,aB,QJ,h2⟩|ret=>exact⟨n,.ret,bK,aB,QJ,h2⟩
theorem aF.skip {Q:Ex->Fr->ah->Prop}(h:Q .normal fr Y):aF E .skip fr Y Q:=⟨0,.normal,fr,Y,rfl,h⟩
theorem aF.ret {Q:Ex->Fr->ah->Prop}(h:Q .ret fr Y):aF E .ret fr Y Q:=⟨0,.ret,fr,Y,rfl,h⟩
theorem aF.exit {i:Nat}{Q:Ex->Fr->ah->Prop}(h:Q (.exit i) fr Y):aF E (.exit i) fr Y Q:=⟨0,.exit i,fr,Y,rfl,h⟩
theorem aF.cond {c:Operand}{a b:Code}{t:Bool}{Q:Ex->Fr->ah->Prop}(hc:fr.ev E c= .bool t)(ht:t=true->aF E a fr Y Q)(hf:t=false->aF E b fr Y Q):aF E (.cond c a b) fr Y Q:=by
 cases t with
 |true=>obtain⟨n,e,fr',Y',h1,h2⟩:=ht rfl;exact⟨n,e,fr',Y',by simp only[eu,hc,yg,Option.bind_some,if_true,h1],h2⟩
 |false=>obtain⟨n,e,fr',Y',h1,h2⟩:=hf rfl;exact⟨n,e,fr',Y',by simp only[eu,hc,yg,Option.bind_some,dI,if_false,h1],h2⟩
def XA (id:Nat)(Q:Ex->Fr->ah->Prop)(e:Ex)(fr:Fr)(Y:ah):Prop:=match e with
 |.exit i=>if i=id then Q .normal fr Y else Q (.exit i) fr Y|e=>Q e fr Y
theorem aF.block {id:Nat}{c:Code}{Q:Ex->Fr->ah->Prop}(h:aF E c fr Y (XA id Q)):aF E (.block id c) fr Y Q:=by
 obtain⟨n,e,fr',Y',h1,h2⟩:=h;cases e with
 |normal=>exact⟨n,.normal,fr',Y',by simp only[eu,h1,Option.map_some],h2⟩|ret=>exact⟨n,.ret,fr',Y',by simp only[eu,h1,Option.map_some],h2⟩|exit i=>
  simp only[XA] at h2;split at h2
  .rename_i hi;exact⟨n,.normal,fr',Y',by simp only[eu,h1,Option.map_some,if_pos hi],h2⟩
  .rename_i hi;exact⟨n,.exit i,fr',Y',by simp only[eu,h1,Option.map_some,if_neg hi],h2⟩
theorem aF.scope {c:Code}{Q:Ex->Fr->ah->Prop}(h:aF E c fr Y Q):aF E (.scope c) fr Y Q:=by obtain⟨n,e,fr',Y',h1,h2⟩:=h;exact⟨n,e,fr',Y',by simp only[eu,h1],h2⟩
theorem aF.label {l:Nat}{Q:Ex->Fr->ah->Prop}(h:Q .normal fr Y):aF E (.label l) fr Y Q:=⟨0,.normal,fr,Y,by simp only[eu],h⟩
def as9 (E:Env)(c:Code)(Q:Ex->Fr->ah->Prop)(e:Ex)(fr:Fr)(Y:ah):Prop:=match e with
 |.normal=>aF E (.loop c) fr Y Q|e=>Q e fr Y
theorem aF.loop {c:Code}{Q:Ex->Fr->ah->Prop}(h:aF E c fr Y (as9 E c Q)):aF E (.loop c) fr Y Q:=by
 obtain⟨n,e,bK,aB,h1,h2⟩:=h;cases e with
 |normal=>obtain⟨m,e,fr',Y',h3,h4⟩:=h2;refine⟨max n m+1,e,fr',Y',?_,h4⟩;simp only[eu,zD (jP (show n<=max n m+1 by omega)) _ _ _ _ h1,Option.bind_some];exact zD (jP (qG n m)) _ _ _ _ h3
 |exit i=>exact⟨n,.exit i,bK,aB,QJ,h2⟩|ret=>exact⟨n,.ret,bK,aB,QJ,h2⟩
def oI (E:Env)(rs:List ResultVar)(R:V->ah->Prop)(e:Ex)(fr:Fr)(Y:ah):Prop:=match e with
 |.exit _=>False|_=>∃vs,rs.mapM (jF E fr Y)=some vs/\R (match vs with| [v]=>v|vs=>.bW vs) Y
theorem iW.of {f:FuncId}{args:List V}{d:Nat}{fn:Func}{c:Code}{R:V->ah->Prop}(hf:E.P.funcs[f]? =some fn)(hb:fn.body=some c)(hok:(decide (args.length<=fn.ntmps)&& iI fn.ntmps c)=true)(h:aF E c {d:=d,aj:=E.aj f,tm:=fun i=>args.getD i aP} Y (oI E fn.results.toList R)):iW E f args d Y R:=by
 obtain⟨n,e,fr',Y',h1,h2⟩:=h;have hok':args.length<=fn.ntmps/\iI fn.ntmps c=true:=by simpa using hok
 have key:∀vs,fn.results.toList.mapM (jF E fr' Y')=some vs->(e= .normal\/e= .ret)->(bJ E (n+2)).call f args d Y=some ((match vs with| [v]=>v|vs=>.bW vs),Y'):=by intro vs hvs he;show qK E (bJ E (n+1)) f args d Y=_;have h3:(bJ E (n+1)).code c {d:=d,aj:=E.aj f,tm:=fun i=>args.getD i aP} Y=some (e,fr',Y'):=h1;simp only[qK,hf,hb,Option.bind_some,if_pos hok',h3];rcases he with rfl|rfl<;>simp only[hvs,Option.map_some]<;>rcases vs with _| ⟨x,_| ⟨y,l⟩⟩<;>rfl
 cases e with
 |normal=>obtain⟨vs,h3,h4⟩:=h2;exact⟨n+2,_,Y',key vs h3 (.inl rfl),h4⟩
 |ret=>obtain⟨vs,h3,h4⟩:=h2;exact⟨n+2,_,Y',key vs h3 (.inr rfl),h4⟩
 |exit i=>exact h2.elim
theorem Pure.of {f:FuncId}{args:List V}{v:V}{fn:Func}{c:Code}(hs:E.mO f=none)(hf:E.P.funcs[f]? =some fn)(hb:fn.body=some c)(hok:(decide (args.length<=fn.ntmps)&& iI fn.ntmps c)=true)(h:aF E c {d:=1,aj:=E.aj f,tm:=fun i=>args.getD i aP} ah.init (oI E fn.results.toList (fun v0 Y=>bA 20 Y v0=some v))):Pure E f args v:=by
 obtain⟨n,v0,Y',h1,h2⟩:=iW.of hf hb hok h;exact⟨n,by simp only[mP,hs,h1,Option.bind_some,h2]⟩
theorem CB (fr:Fr)(d:Nat)(v:V):fr.put (some d) v=fr.set d v:=rfl
theorem RX (fr:Fr)(v:V):fr.put none v=fr:=rfl
theorem aix (fr:Fr)(d:Nat)(v:V):(fr.set d v).tm d=v:=by simp[Fr.set,upd]
theorem MQ (fr:Fr){d t:Nat}(v:V)(h:(t==d)=false):(fr.set d v).tm t=fr.tm t:=by
 have h':¬t=d:=zl
 simp[Fr.set,upd,h']
theorem E9 (fr:Fr)(d:Nat)(v:V):(fr.set d v).d=fr.d:=rfl
theorem ata (fr:Fr)(d:Nat)(v:V):(fr.set d v).aj=fr.aj:=rfl
theorem Iq (fr:Fr)(t:Nat):fr.ev E (.tmp t)=fr.tm t:=rfl
theorem aiy (fr:Fr)(v:Value):fr.ev E (.const v)=(ofValue v).getD (.raw v):=rfl
theorem aiz (fr:Fr)(f:FuncId):fr.ev E (.func f)= .fn (.func f) [] []:=rfl
theorem atb (Y:ah)(k:Nat):(Y.bump k).next=Y.next+k:=rfl
theorem atc (Y:ah)(l:aR.Loc)(s:Nat)(o:kH):(Y.setObj l s o).next=Y.next:=rfl
theorem atd (Y:ah)(s n:Nat):(Y.eB s n).next=Y.next:=rfl
theorem MR (Y:ah)(s n:Nat):(Y.eB s n).top s=n:=by simp[ah.eB,upd]
theorem RY (Y:ah){s t:Nat}(n:Nat)(h:t≠s):(Y.eB s n).top t=Y.top t:=by simp[ah.eB,upd,h]
theorem ate (Y:ah)(k:Nat):(Y.bump k).top=Y.top:=rfl
theorem atf (Y:ah)(l:aR.Loc)(s:Nat)(o:kH):(Y.setObj l s o).top=Y.top:=rfl
theorem aiA {l l':aR.Loc}(h:rF l l'=false):¬l=l':=by rintro rfl;simp[rF] at h
theorem XB (a b c d:Nat):rF (a,b) (c,d)=(b==d&& a==c):=rfl
theorem sK (Y:ah)(l:aR.Loc)(s:Nat)(cs:List V):(Y.setObj l s (.cells cs)).dS l s=some cs:=by simp[ah.setObj,ah.dS,upd]
theorem Fa (Y:ah){l l':aR.Loc}(s s':Nat)(o:kH)(h:rF l l'=false):(Y.setObj l' s' o).dS l s=Y.dS l s:=by have h':=aiA h;simp[ah.setObj,ah.dS,upd,h']
theorem MS (Y:ah)(k:Nat)(l:aR.Loc)(s:Nat):(Y.bump k).dS l s=Y.dS l s:=rfl
theorem atg (Y:ah)(t n:Nat)(l:aR.Loc)(s:Nat):(Y.eB t n).dS l s=Y.dS l s:=rfl
theorem map_eq (Y:ah)(l:aR.Loc)(s:Nat)(ks vs:List V):(Y.setObj l s (.map ks vs)).lg l s=some (ks,vs):=by simp[ah.setObj,ah.lg,upd]
theorem aiB (Y:ah){l l':aR.Loc}(s s':Nat)(o:kH)(h:rF l l'=false):(Y.setObj l' s' o).lg l s=Y.lg l s:=by have h':=aiA h;simp[ah.setObj,ah.lg,upd,h']
theorem ath (Y:ah)(k:Nat)(l:aR.Loc)(s:Nat):(Y.bump k).lg l s=Y.lg l s:=rfl
theorem ati (Y:ah)(t n:Nat)(l:aR.Loc)(s:Nat):(Y.eB t n).lg l s=Y.lg l s:=rfl
theorem rO {a b c d:Nat}(h:b≠d):((a,b):aR.Loc)≠(c,d):=fun e=>h (by cases e;rfl)
end
def Is {U:Type}(a b:U):Prop:=a=b
theorem Is.rfl {U:Type}{a:U}:Is a a:=Eq.refl a
def iv (n:Int):V:=.int .i64 n
def lv {U:Type}(f:U->V)(l:List U):V:=.ak .sh (l.map f)
theorem aiC {U:Type}{f:U->V}(h:∀x,aQ (f x)=true):∀l:List U,cu (l.map f)=true
 | []=>by simp[cu]|a::l=>by simp[cu,h a,aiC h l]
theorem MU {U:Type}{f:U->V}(h:∀x,aQ (f x)=true)(l:List U):aQ (.ak .sh (l.map f))=true:=by simp only[aQ];exact aiC h l
theorem lU {U:Type}{f:U->V}(h:∀x,aQ (f x)=true)(l:List U):aQ (lv f l)=true:=MU h l
theorem atj (n:Int):aQ (iv n)=true:=by simp[iv,aQ]
theorem nH (l:List (List UInt8)):aQ (lv V.str l)=true:=lU (fun _=>tL) l
theorem nI (l:List Int):aQ (lv iv l)=true:=lU atj l
theorem nJ (k:IntKind)(l:List Int):aQ (lv (V.int k) l)=true:=lU (fun _=>tL) l
theorem nK (l:List Bool):aQ (lv V.bool l)=true:=lU (fun _=>tL) l
attribute [go_sem] nH nI nJ nK
def aH {U:Type}(l:List U)(i:Int):Option U:=if 0<=i/\i<l.length then l[i.toNat]? else none
def wV (P:Program)(t:TypeId):Bool:=match P.underlying t with
 |some (.slice _)=>true|_=>false
def XC (P:Program)(t:TypeId):Bool:=match P.underlying t with
 |some .string=>true|_=>false
section
variable {E:Env}{fr:Fr}{Y:ah}
def CF (Q:Ex->Fr->ah->Prop)(fr:Fr)(Y:ah):Prop:=Q .normal fr Y
theorem CF.i {Q:Ex->Fr->ah->Prop}(h:Q .normal fr Y):CF Q fr Y:=h
theorem dw.n {b:Code}{Q:Ex->Fr->ah->Prop}(h:aF E b fr Y Q):dw E b Q .normal fr Y:=h
theorem dw.r {b:Code}{Q:Ex->Fr->ah->Prop}(h:Q .ret fr Y):dw E b Q .ret fr Y:=h
theorem aF.aiD {id:Nat}{l:List Oper}{Q:Ex->Fr->ah->Prop}(h:∀k,dL E (nZ l) l Y.next l fr (Y.bump k) [] (CF Q))(he:ql l=true:=by rfl):aF E (.region id l.toArray true) fr Y Q:=aF.draw (ops:=l.toArray) he (h _)
theorem aF.uf {c:Operand}{a b:Code}{Q:Ex->Fr->ah->Prop}(hc:Is (fr.ev E c) (.bool true))(h:aF E a fr Y Q):aF E (.cond c a b) fr Y Q:=aF.cond hc (fun _=>h) (fun h=>dh)
theorem aF.vD {c:Operand}{a b:Code}{Q:Ex->Fr->ah->Prop}(hc:Is (fr.ev E c) (.bool false))(h:aF E b fr Y Q):aF E (.cond c a b) fr Y Q:=aF.cond hc (fun h=>dh) (fun _=>h)
theorem ay.o1 {all:List Oper}{st:Nat}{d:Tmp}{op:Op}{ty:TypeId}{pos:String}{cK:Array Edge}{gd:Option (Nat×Bool)}{os:List Oper}{v:V}{aB:ah}{Q:Fr->ah->Prop}(hw:Is (fM all fr ⟨some d,op,ty,pos,cK,gd⟩) (some true))(hop:∀S,Is (opC E S fr Y st ⟨some d,op,ty,pos,cK,gd⟩) (some (v,fr,aB)))(h:ay E all (st+1) os (fr.set d v) aB Q):ay E all st (⟨some d,op,ty,pos,cK,gd⟩::os) fr Y Q:=ay.op hw hop h
theorem ay.a1 {all:List Oper}{st:Nat}{d:Tmp}{op:Op}{ty:TypeId}{pos:String}{cK:Array Edge}{gd:Option (Nat×Bool)}{os:List Oper}{v:V}{aB:ah}{Q:Fr->ah->Prop}(h:ay E all (st+1) os (fr.set d v) aB Q)(hw:Is (fM all fr ⟨some d,op,ty,pos,cK,gd⟩) (some true):=by rfl)(hop:∀S,Is (opC E S fr Y st ⟨some d,op,ty,pos,cK,gd⟩) (some (v,fr,aB)):=by intro S;simp only[go_sem,Nat.reduceBEq,Nat.reduceAdd, *];with_reducible exact Is.rfl):ay E all st (⟨some d,op,ty,pos,cK,gd⟩::os) fr Y Q:=ay.o1 hw hop h
theorem ay.o0 {all:List Oper}{st:Nat}{op:Op}{ty:TypeId}{pos:String}{cK:Array Edge}{gd:Option (Nat×Bool)}{os:List Oper}{v:V}{aB:ah}{Q:Fr->ah->Prop}(hw:Is (fM all fr ⟨none,op,ty,pos,cK,gd⟩) (some true))(hop:∀S,Is (opC E S fr Y st ⟨none,op,ty,pos,cK,gd⟩) (some (v,fr,aB)))(h:ay E all (st+1) os fr aB Q):ay E all st (⟨none,op,ty,pos,cK,gd⟩::os) fr Y Q:=ay.op hw hop h
theorem ay.s1 {all:List Oper}{st:Nat}{d:Tmp}{op:Op}{ty:TypeId}{pos:String}{cK:Array Edge}{gd:Option (Nat×Bool)}{os:List Oper}{Q:Fr->ah->Prop}(hw:Is (fM all fr ⟨some d,op,ty,pos,cK,gd⟩) (some false))(h:ay E all (st+1) os (fr.set d aP) Y Q):ay E all st (⟨some d,op,ty,pos,cK,gd⟩::os) fr Y Q:=ay.skip hw h
theorem dL.o1 {ms:List Nat}{all:List Oper}{st:Nat}{d:Tmp}{op:Op}{ty:TypeId}{pos:String}{cK:Array Edge}{gd:Option (Nat×Bool)}{os:List Oper}{v:V}{aB:ah}{fs:List dR}{f:dR}{Q:Fr->ah->Prop}(hw:Is (fM all fr ⟨some d,op,ty,pos,cK,gd⟩) (some true))(hop:∀S,Is (opC E S fr Y st ⟨some d,op,ty,pos,cK,gd⟩) (some (v,fr,aB)))(hf:Is (d9 E all fr ⟨some d,op,ty,pos,cK,gd⟩ true) f)(h:dL E ms all (st+1) os (fr.set d v) aB (fs++[f]) Q):dL E ms all st (⟨some d,op,ty,pos,cK,gd⟩::os) fr Y fs Q:=
 dL.op hw hop (by rw[hf];exact h)
theorem dL.o0 {ms:List Nat}{all:List Oper}{st:Nat}{op:Op}{ty:TypeId}{pos:String}{cK:Array Edge}{gd:Option (Nat×Bool)}{os:List Oper}{v:V}{aB:ah}{fs:List dR}{f:dR}{Q:Fr->ah->Prop}(hw:Is (fM all fr ⟨none,op,ty,pos,cK,gd⟩) (some true))(hop:∀S,Is (opC E S fr Y st ⟨none,op,ty,pos,cK,gd⟩) (some (v,fr,aB)))(hf:Is (d9 E all fr ⟨none,op,ty,pos,cK,gd⟩ true) f)(h:dL E ms all (st+1) os fr aB (fs++[f]) Q):dL E ms all st (⟨none,op,ty,pos,cK,gd⟩::os) fr Y fs Q:=
 dL.op hw hop (by rw[hf];exact h)
theorem ay.RZ {all:List Oper}{st:Nat}{d:Option Tmp}{f:Operand}{args:Array Operand}{tys:Array TypeId}{ty:TypeId}{pos:String}{cK:Array Edge}{gd:Option (Nat×Bool)}{os:List Oper}{Q:Fr->ah->Prop}{g:FuncId}{a b dP:List V}{v:V}(hp:Pure E g dP v)(hf:Is (fr.ev E f) (.fn (.func g) a b))(has:Is ((a++args.toList.map (fr.ev E)++b).mapM (bA 20 Y)) (some dP))(hc:Is ((a++args.toList.map (fr.ev E)++b).all (fun x=>aQ (er x))||flat v) true)(hw:Is (fM all fr ⟨d,.call ⟨.value f,args,tys⟩,ty,pos,cK,gd⟩) (some true))(h:ay E all (st+1) os (fr.put d v) Y Q)(hi:E.imp g=false:=by rfl)(eZ:∀d',d=some d'->E.own g d'=false:=by intros;rfl):ay E all st (⟨d,.call ⟨.value f,args,tys⟩,ty,pos,cK,gd⟩::os) fr Y Q:=
 ay.call hw rfl rfl hf hi has hp hc h eZ
theorem dL.RZ {ms:List Nat}{fs:List dR}{ft:dR}{all:List Oper}{st:Nat}{d:Option Tmp}{f:Operand}{args:Array Operand}{tys:Array TypeId}{ty:TypeId}{pos:String}{cK:Array Edge}{gd:Option (Nat×Bool)}{os:List Oper}{Q:Fr->ah->Prop}{g:FuncId}{a b dP:List V}{v:V}(hp:Pure E g dP v)(hf:Is (fr.ev E f) (.fn (.func g) a b))(has:Is ((a++args.toList.map (fr.ev E)++b).mapM (bA 20 Y)) (some dP))(hc:Is ((a++args.toList.map (fr.ev E)++b).all (fun x=>aQ (er x))||flat v) true)(hw:Is (fM all fr ⟨d,.call ⟨.value f,args,tys⟩,ty,pos,cK,gd⟩) (some true))(hft:Is (d9 E all fr ⟨d,.call ⟨.value f,args,tys⟩,ty,pos,cK,gd⟩ true) ft)(h:dL E ms all (st+1) os (fr.put d v) Y (fs++[ft]) Q)(hi:E.imp g=false:=by rfl)(eZ:∀d',d=some d'->E.own g d'=false:=by intros;rfl):dL E ms all st (⟨d,.call ⟨.value f,args,tys⟩,ty,pos,cK,gd⟩::os) fr Y fs Q:=
 dL.call hw rfl rfl hf hi has hp hc (by rw[hft];exact h) eZ
theorem oI.one {r:ResultVar}{e:Ex}{v0:V}{R:V->ah->Prop}(he:∀i,e≠ .exit i)(hv:Is (jF E fr Y r) (some v0))(hr:R v0 Y):oI E [r] R e fr Y:=by
 have h1:[r].mapM (jF E fr Y)=some [v0]:=by rw[iM,hv];rfl
 cases e with
 |exit i=>exact absurd rfl (he i)|normal=>exact⟨[v0],h1,hr⟩|ret=>exact⟨[v0],h1,hr⟩
theorem oI.bW {rs:List ResultVar}{e:Ex}{v1 v2:V}{vs:List V}{R:V->ah->Prop}(he:∀i,e≠ .exit i)(hv:Is (rs.mapM (jF E fr Y)) (some (v1::v2::vs)))(hr:R (.bW (v1::v2::vs)) Y):oI E rs R e fr Y:=by
 cases e with
 |exit i=>exact absurd rfl (he i)|normal=>exact⟨_,hv,hr⟩|ret=>exact⟨_,hv,hr⟩
theorem Pure.of' {f:FuncId}{args:List V}{v:V}{fn:Func}{c:Code}(rs:List ResultVar)(hf:E.P.funcs[f]? =some fn)(hb:fn.body=some c)(h:∀fr Y,fr.d=1->fr.aj=E.aj f->(∀i,fr.tm i=args.getD i aP)->aF E c fr Y (oI E rs (fun v0 Y=>bA 20 Y v0=some v)))(hrs:fn.results.toList=rs:=by rfl)(hok:(decide (args.length<=fn.ntmps)&& iI fn.ntmps c)=true:=by rfl)(hs:E.mO f=none:=by rfl):Pure E f args v:=
 Pure.of hs hf hb hok (by rw[hrs];exact h _ _ rfl rfl (fun _=>rfl))
theorem oh {n:Nat}{x:V}(h:aQ x=true):bA (n+1) Y x=some x:=by unfold bA;simp only[h,if_true]
theorem XD (n:Nat)(k:IntKind)(i:Int):bA (n+1) Y (.int k i)=some (.int k i):=oh tL
theorem XE (n:Nat)(b:Bool):bA (n+1) Y (.bool b)=some (.bool b):=oh tL
theorem XF (n:Nat)(s:List UInt8):bA (n+1) Y (.str s)=some (.str s):=oh tL
theorem yD {n:Nat}{U:Type}{f:U->V}(c:Cap)(l:List U)(h:∀x,aQ (f x)=true):bA (n+2) Y (.ak c (l.map f))=some (lv f l):=by
 by_cases hp:aQ (.ak c (l.map f))=true
 .rw[oh hp];cases c<;>simp only[aQ,dI] at hp;rfl
 .unfold bA;simp only[hp,if_false,dI];have:(l.map f).mapM (bA (n+1) Y)=some (l.map f):=by
   induction l with
   |nil=>simp|cons a l ih=>simp[h a,oh,ih (by cases c<;>simp_all[aQ,cu])]
  rw[this];rfl
theorem atl (k:IntKind)(i:Int):er (.int k i)= .int k i:=rfl
theorem atm (b:Bool):er (.bool b)= .bool b:=rfl
theorem atn (s:List UInt8):er (.str s)= .str s:=rfl
theorem ato {U:Type}(f:U->V)(l:List U):er (lv f l)=lv f l:=rfl
theorem atp (c:Cap)(l:List V):er (.ak c l)= .ak .sh l:=rfl
theorem atq (n:Int):iv n= .int .i64 n:=rfl
theorem XG (k:IntKind)(i:Int):aQ (.int k i)=true:=tL
theorem XH (b:Bool):aQ (.bool b)=true:=tL
theorem aiE (s:List UInt8):aQ (.str s)=true:=tL
theorem XI {P:Program}{U:Type}{t:TypeId}{c:Cap}{l:List U}{f:U->V}{k:IntKind}{i:Int}:
 qh P t (.ak c (l.map f)) (.int k i)=if wV P t then (lS P t).bind fun e=>(dO P e).bind fun sz=>(aH l i).bind fun x=>if (f x).cells.length=sz then some (.aY (f x).cells 0) else none else none:=by
 unfold qh wV lS;cases hu:P.underlying t with
 |none=>rfl|some u=>
  cases u<;>try rfl
  rename_i e;simp only[if_true,Option.bind_some];cases dO P e with
  |none=>rfl|some sz=>
   simp only[Option.bind_some,idx,pQ,fF,aH];split
   .rename_i h;simp only[Option.bind_some,List.getElem?_map];cases l[i.toNat]? with
    |none=>rfl|some x=>rfl
   .rfl
theorem atr {P:Program}{t:TypeId}{v:V}(h1:jX P t=some false)(h2:dO P t=some 1):gT P t [v] 0=some v:=by simp[gT,h1,h2,rD]
theorem att {t:TypeId}(c:Cap)(l:List V)(h:wV E.P t=true):u7 E Y t (.ak c l)=some l.length:=by
 unfold wV at h;unfold u7;split at h
 .rename_i e he;rw[he]
 .simp at h
end
section
variable {E:Env}{S:iV}{fr:Fr}{Y:ah}{st:Nat}{d:Option Tmp}{ty:TypeId}{pos:String}{cK:Array Edge}{gd:Option (Nat×Bool)}
theorem atu (all:List Oper)(op:Op):fM all fr ⟨d,op,ty,pos,cK,none⟩=some true:=rfl
def XJ (want:Bool):V->Option Bool
 |.bool b=>some (b==want)|.raw _=>none|_=>some false
theorem atv (w b:Bool):XJ w (.bool b)=some (b==w):=rfl
theorem atw (w:Bool):XJ w aP=some false:=rfl
theorem atx (all:List Oper)(op:Op)(j:Nat)(want:Bool):fM all fr ⟨d,op,ty,pos,cK,some (j,want)⟩=match (all[j]?).bind (·.dst) with
 |some t=>XJ want (fr.tm t)|none=>some false:=by
 simp only[fM];cases (all[j]?).bind (·.dst) with
 |none=>rfl|some t=>simp only;cases fr.tm t<;>rfl
theorem aty (cs:List V):V.cells (.agg cs)=cs:=rfl
theorem atz (k:IntKind)(n:Int):V.cells (.int k n)=[.int k n]:=rfl
theorem atA (k:IntKind)(n:Int):fI (.int k n)=true:=rfl
theorem atB (b:Bool):V.cells (.bool b)=[.bool b]:=rfl
theorem atC (b:Bool):fI (.bool b)=true:=rfl
theorem atD (s:List UInt8):V.cells (.str s)=[.str s]:=rfl
theorem atE (s:List UInt8):fI (.str s)=true:=rfl
theorem atF (c:Cap)(l:List V):V.cells (.ak c l)=[.ak c l]:=rfl
theorem atG (c:Cap)(l:List V):fI (.ak c l)=true:=rfl
theorem atH (l:aR.Loc)(s o:Nat):V.cells (.ref l s o)=[.ref l s o]:=rfl
theorem atI (l:aR.Loc)(s o:Nat):fI (.ref l s o)=true:=rfl
theorem atJ (cs:List V)(o:Nat):V.cells (.aY cs o)=[.aY cs o]:=rfl
theorem atK (cs:List V)(o:Nat):fI (.aY cs o)=true:=rfl
theorem atL (f:Fn)(a b:List V):V.cells (.fn f a b)=[.fn f a b]:=rfl
theorem atM (f:Fn)(a b:List V):fI (.fn f a b)=true:=rfl
theorem atN {U:Type}(f:U->V)(l:List U):V.cells (lv f l)=[lv f l]:=rfl
theorem atO:dA []=true:=rfl
theorem aiF (x:V)(l:List V):dA (x::l)=(oneCell x&& dA l):=rfl
theorem atP (k:IntKind)(n:Int):oneCell (.int k n)=true:=rfl
theorem atQ (b:Bool):oneCell (.bool b)=true:=rfl
theorem atS (s:List UInt8):oneCell (.str s)=true:=rfl
theorem atT {U:Type}(f:U->V)(l:List U):oneCell (lv f l)=true:=rfl
theorem atU (c:Cap)(l:List V):oneCell (.ak c l)=true:=rfl
theorem atV (l:aR.Loc)(s o:Nat):oneCell (.ref l s o)=true:=rfl
theorem atW (cs:List V)(o:Nat):oneCell (.aY cs o)=true:=rfl
theorem atX (cs:List V):fI (.agg cs)=true:=rfl
theorem atY {U:Type}(f:U->V)(l:List U):fI (lv f l)=true:=rfl
theorem atZ (x:Operand)(h:yh E d=false):opC E S fr Y st ⟨d,.move x,ty,pos,cK,gd⟩=some (fr.ev E x,fr,Y):=by show Option.map _ (if yh E d=true then yj Y (fr.ev E x) else some (fr.ev E x,Y))=_;rw[if_neg (by rw[h];simp)];rfl
theorem at0 (x:Operand):opC E S fr Y st ⟨d,.assign x,ty,pos,cK,gd⟩=some (fr.ev E x,fr,Y):=rfl
theorem agX (c a b:Operand)(h:fr.ev E c= .bool true):opC E S fr Y st ⟨d,.pick c a b,ty,pos,cK,gd⟩=some (fr.ev E a,fr,Y):=by simp only[opC,dM,h,yg,Option.map_some,if_true]
theorem agW (c a b:Operand)(h:fr.ev E c= .bool false):opC E S fr Y st ⟨d,.pick c a b,ty,pos,cK,gd⟩=some (fr.ev E b,fr,Y):=by simp only[opC,dM,h,yg,Option.map_some,dI,if_false]
theorem aiG (op:BinOp)(t u:TypeId)(x y:Operand):opC E S fr Y st ⟨d,.binOp op t x y u,ty,pos,cK,gd⟩=(sI E.P op t (fr.ev E x) (fr.ev E y)).map fun v=>(v,fr,Y):=by simp only[opC,dM];cases sI E.P op t (fr.ev E x) (fr.ev E y)<;>rfl
theorem at1 (op:UnOp)(t:TypeId)(x:Operand):opC E S fr Y st ⟨d,.unOp op t x,ty,pos,cK,gd⟩=(EN op (fr.ev E x)).map fun v=>(v,fr,Y):=by simp only[opC,dM];cases EN op (fr.ev E x)<;>rfl
theorem at5 (t:TypeId)(x:Operand)(f:Nat):opC E S fr Y st ⟨d,.fieldAddr t x f,ty,pos,cK,gd⟩=(x9 E.P t f).bind fun p=>match fr.ev E x with
 |.ref loc s off=>some (.ref loc s (off+p.1),fr,Y)|.aY cs off=>some (.aY cs (off+p.1),fr,Y)|_=>none:=by
 simp only[opC,dM];cases x9 E.P t f with
 |none=>rfl|some p=>obtain⟨o,u⟩:=p;simp only[Option.bind_some];cases fr.ev E x<;>rfl
theorem at6 (t:TypeId)(x:Operand):opC E S fr Y st ⟨d,.load t x,ty,pos,cK,gd⟩=(match fr.ev E x with
 |.ref loc s off=>(Y.dS loc s).bind fun cs=>(gT E.P t cs off).map fun v=>(v,fr,Y)
 |.aY cs off=>(gT E.P t cs off).map fun v=>(v,fr,Y)
 |_=>none):=by
 simp only[opC,dM];cases fr.ev E x with
 |ref loc s off=>
  simp only;cases Y.dS loc s with
  |none=>rfl|some cs=>simp only[Option.bind_some];cases gT E.P t cs off<;>rfl
 |aY cs off=>simp only;cases gT E.P t cs off<;>rfl|_=>rfl
theorem at7 (t:TypeId)(x:Operand)(i:Nat):opC E S fr Y st ⟨some i,.box t x,ty,pos,cK,gd⟩=if tN E t (some i)=true then (if aQ (er (fr.ev E x))=true/\fI (fr.ev E x)=true then some (.aY (er (fr.ev E x)).cells 0,fr,Y) else none) else if dA (fr.ev E x).cells/\fI (fr.ev E x) then some (.ref (fr.d,i) st 0,fr,Y.setObj (fr.d,i) st (.cells (fr.ev E x).cells)) else none:=by
 show Option.map _ (if tN E t (some i)=true then _ else (some (fr.d,i)).bind _)=_;by_cases hz:tN E t (some i)=true
 .simp only[hz,if_true];split<;>rfl
 .simp only[hz,dI,if_false,Option.bind_some];split<;>rfl
theorem aua (t:TypeId)(i:Nat):opC E S fr Y st ⟨some i,.alloc t,ty,pos,cK,gd⟩=(je E.P t).bind fun z=>if dA z.cells then some (.ref (fr.d,i) st 0,fr,Y.setObj (fr.d,i) st (.cells z.cells)) else none:=by
 simp only[opC,dM,Option.map_some,Option.bind_some];cases je E.P t with
 |none=>rfl|some z=>simp only[Option.bind_some];split<;>rfl
theorem aub (t:TypeId)(a x:Operand):opC E S fr Y st ⟨d,.store t a x,ty,pos,cK,gd⟩=(match fr.ev E a with
 |.ref loc s off=>(Y.dS loc s).bind fun cs=>
  if some (fr.ev E x).cells.length=dO E.P t/\off+(fr.ev E x).cells.length<=cs.length/\dA (fr.ev E x).cells then some (aP,fr,Y.setObj loc s (.cells (gM cs off (fr.ev E x).cells))) else none
 |_=>none):=by
 simp only[opC,dM];cases fr.ev E a with
 |ref loc s off=>
  simp only;cases Y.dS loc s with
  |none=>rfl|some cs=>simp only[Option.bind_some];split<;>rfl
 |_=>rfl
theorem auc (t:TypeId)(x i:Operand):opC E S fr Y st ⟨d,.indexAddr t x i,ty,pos,cK,gd⟩=(qh E.P t (fr.ev E x) (fr.ev E i)).map fun v=>(v,fr,Y):=by simp only[opC,dM];cases qh E.P t (fr.ev E x) (fr.ev E i)<;>rfl
theorem aud (x:Operand)(i:Nat):opC E S fr Y st ⟨d,.extract x i,ty,pos,cK,gd⟩=(match fr.ev E x with
 |.bW vs=>(vs[i]?).map fun v=>(v,fr,Y)
 |_=>none):=by
 simp only[opC,dM];cases fr.ev E x with
 |bW vs=>simp only;cases vs[i]? <;>rfl|_=>rfl
theorem aue (x:Operand)(t:TypeId):opC E S fr Y st ⟨d,.call ⟨.builtin .len, #[x], #[t]⟩,ty,pos,cK,gd⟩=(u7 E Y t (fr.ev E x)).map fun n=>(.int .i64 (n:Nat),fr,Y):=by show (Option.map _ (((#[t]:Array TypeId)[0]?).bind fun t=>(u7 E Y t (fr.ev E x)).map fun n=>(V.int .i64 (n:Nat),Y)))=_;rw[show (#[t]:Array TypeId)[0]? =some t from rfl,Option.bind_some];cases u7 E Y t (fr.ev E x)<;>rfl
end
attribute [go_sem] dI sI nG Cm EN decide_true decide_false List.getElem?_cons_succ List.getElem?_cons_zero beq_true beq_false Bool.not_true Bool.not_false XB Bool.false_and Bool.and_false Bool.true_and Bool.and_true atu atx atv atw atZ at0 agX agW aiG at1 at5 at6 at7 aua aub auc aud aue Iq aiy aiz aix MQ CB RX E9 ata atb atc atd sK Fa MS atg map_eq aiB ath ati rO MR RY ate atf atq atr att XI fF XD XE XF atl atm atn ato atp XG XH aiE Option.bind_some Option.map_some Option.getD_some yg ofValue lN if_true if_false aty atz atB atD atN atF atH atJ atL atA atC atE atG atI atK atM atO aiF atP atQ atS atT atU atV atW atX atY and_self and_true true_and
def zG:Code->List Nat->Option Code
 |c,[]=>some c|.seq a b,i::l=>if i=0 then zG a l else zG b l|.cond _ a b,i::l=>if i=0 then zG a l else zG b l|.block _ a,_::l=>zG a l|.loop a,_::l=>zG a l|.scope a,_::l=>zG a l|.rangeFunc _ _ a b,i::l=>if i=0 then zG a l else zG b l|_,_=>none
def R3 (b:Option Code)(l:List Nat):Option Code:=b.bind fun c=>zG c l
section
variable {E:Env}{fr:Fr}{Y:ah}
def R4 (E:Env)(c:Code)(fr:Fr)(Y:ah)(Q:Ex->Fr->ah->Prop):Prop:=aF E (.loop c) fr Y Q
theorem aF.lp {c:Code}{Q:Ex->Fr->ah->Prop}(h:R4 E c fr Y Q):aF E (.loop c) fr Y Q:=h
def MV:Code->Nat
 |.region i _ _=>i|.seq a _=>MV a|.loop a=>MV a|.scope a=>MV a|.block _ a=>MV a|_=>0
theorem R4.at (k:Nat){c:Code}{Q:Ex->Fr->ah->Prop}(_h:Is (MV c) k)(h:R4 E c fr Y Q):R4 E c fr Y Q:=h
theorem aiH {n:Nat}(cs:List V):bA (n+2) Y (.agg cs)=(cs.mapM (bA (n+1) Y)).map .agg:=by
 by_cases hp:aQ (.agg cs)=true
 .rw[oh hp];have:∀cs:List V,cu cs=true->cs.mapM (bA (n+1) Y)=some cs:=by
   intro cs;induction cs with
   |nil=>intro _;rfl|cons a l ih=>intro h;simp only[cu,bf] at h;rw[iM,oh h.1,ih h.2];rfl
  rw[this cs BZ];rfl
 .conv=>lhs;unfold bA
  simp only[hp,if_false,dI]
theorem R5 {n:Nat}(cs:List V):bA (n+2) Y (.bW cs)=(cs.mapM (bA (n+1) Y)).map .bW:=by
 by_cases hp:aQ (.bW cs)=true
 .rw[oh hp];have:∀cs:List V,cu cs=true->cs.mapM (bA (n+1) Y)=some cs:=by
   intro cs;induction cs with
   |nil=>intro _;rfl|cons a l ih=>intro h;simp only[cu,bf] at h;rw[iM,oh h.1,ih h.2];rfl
  rw[this cs BZ];rfl
 .conv=>lhs;unfold bA
  simp only[hp,if_false,dI]
theorem aF.aiI {id:Nat}{l:List Oper}{Q:Ex->Fr->ah->Prop}(h:∀k,k=l.length->dL E (nZ l) l Y.next l fr (Y.bump k) [] (CF Q))(he:ql l=true:=by rfl):aF E (.region id l.toArray true) fr Y Q:=aF.draw (ops:=l.toArray) he (h _ rfl)
def R6 (sz:Nat)(Y:ah)(c:Cap)(n:Nat):Prop:=c= .nil\/∃s,c= .own sz s/\Y.top s=n/\s<Y.next
theorem auf {s n:Nat}(h:s<n):(s==n)=false:=dz
theorem aug {s n:Nat}(h:s<n):(n==s)=false:=dz
end
def CG (P:Program)(Y:ah)(st:Nat)(t u:TypeId)(x y:V):Option (V×ah):=
 match P.underlying u with
 |some (.int _)=>kI P false true Y st none t x y|some (.slice _)|some .string=>kI P false false Y st none t x y|_=>none
theorem auh {P:Program}{z:Bool}{Y:ah}{st:Nat}{loc:Option Loc}{t:TypeId}{c:Cap}{l:List V}{y:V}:kI P false z Y st loc t (.ak c l) y=kI P false z Y st none t (.ak c l) y:=by
 unfold kI;cases lS P t with
 |none=>rfl|some e=>cases c<;>rfl
section
variable {E:Env}{S:iV}{fr:Fr}{Y:ah}{st:Nat}{d:Option Tmp}{ty:TypeId}{pos:String}{cK:Array Edge}{gd:Option (Nat×Bool)}
theorem XK {t u:TypeId}{x y:Operand}{c:Cap}{l:List V}(ho:fr.aj=false)(hx:fr.ev E x= .ak c l):opC E S fr Y st ⟨d,.call ⟨.builtin .append, #[x,y], #[t,u]⟩,ty,pos,cK,gd⟩=(CG E.P Y st t u (.ak c l) (fr.ev E y)).map fun p=>(p.1,fr,p.2):=by
 show Option.map _ ((((#[t,u]:Array TypeId)[0]?).bind fun t=>(((#[t,u]:Array TypeId)[1]?).bind E.P.underlying).bind fun u=>match u with
  |.int _=>kI E.P fr.aj true Y st (d.map fun t=>(fr.d,E.cn t)) t (fr.ev E x) (fr.ev E y)
  |.slice _|.string=>kI E.P fr.aj false Y st (d.map fun t=>(fr.d,E.cn t)) t (fr.ev E x) (fr.ev E y)
  |_=>none))=_
 show Option.map _ ((E.P.underlying u).bind _)=_;rw[ho,hx];unfold CG;cases E.P.underlying u with
 |none=>rfl|some u=>
  cases u<;>try rfl
  all_goals (simp only[Option.bind_some];rw[auh];first|rfl| (generalize kI _ _ _ _ _ _ _ _ _=o;cases o<;>rfl))
end
def Fb (P:Program)(t u:TypeId)(sz gI:Nat)(z:V):Prop:=∃e ag,lS P t=some e/\dO P e=some sz/\uY P e=some gI/\jX P e=some ag/\je P e=some z/\z.cells.length=sz/\0<sz/\(ag||sz==1)=true/\wV P u=true
theorem Fb.mk {P:Program}{t u:TypeId}{sz gI:Nat}{z:V}(e:TypeId)(ag:Bool)(h1:lS P t=some e)(h2:dO P e=some sz)(h3:uY P e=some gI)(h4:jX P e=some ag)(h5:je P e=some z)(h6:z.cells.length=sz)(h7:0<sz)(h8:(ag||sz==1)=true)(h9:wV P u=true):Fb P t u sz gI z:=⟨e,ag,h1,h2,h3,h4,h5,h6,h7,h8,h9⟩
def wW (sz:Nat)(l:List V):Bool:=l.all fun v=>v.cells.length==sz&& dA v.cells
theorem aui {U:Type}{f:U->V}{sz:Nat}(h:∀x,(f x).cells.length=sz/\dA (f x).cells=true)(l:List U):wW sz (l.map f)=true:=by simp[wW,h]
theorem CJ {sz:Nat}{l:List V}(h:wW sz l=true):oF sz l=true:=by
 cases l with
 |nil=>rfl|cons a l=>simp[wW] at h;simp[oF,h.1.1]
theorem auj {sz:Nat}{l:List V}(h:wW sz l=true):l.all (fun v=>dA v.cells)=true:=by simp[wW] at h;simpa using fun x hx=>(h x hx).2
theorem aiJ {P:Program}{Y:ah}{st t u sz gI:Nat}{z:V}{x:V}{c2:Cap}{ys:List V}(ha:Fb P t u sz gI z)(hy:wW sz ys=true):
 CG P Y st t u x (.ak c2 ys)=match x with
 |.ak c l=>if cB (l.length+ys.length) gI=true/\oF sz l=true then match c with
  |.own n s=>if n=sz/\Y.top s=l.length then some (.ak (.own n s) (l++ys),Y.eB s (l.length+ys.length)) else none|.nil|.full=>some (.ak (.own sz st) (l++ys),Y.eB st (l.length+ys.length))|_=>none else none
 |_=>CG P Y st t u x (.ak c2 ys):=by
 obtain⟨e,ag,h1,h2,h3,h4,h5,h6,h7,h8,h9⟩:=ha;cases x<;>try rfl
 rename_i c l;unfold wV at h9;split at h9
 .rename_i e' he;simp only[CG,he,kI,h1,h2,h3,h4,h5,Option.bind_some,zu,true_and,if_pos (show z.cells.length=sz/\0<sz/\(ag||sz==1)=true from ⟨h6,h7,h8⟩),nN,CJ hy,if_true,auj hy];cases c<;>rfl
 .simp at h9
theorem auk {P:Program}{Y:ah}{st t u s sz gI:Nat}{z:V}{l:List V}{c2:Cap}{ys:List V}(ha:Fb P t u sz gI z)(hy:wW sz ys=true)(hl:wW sz l=true)(hr:cB (l.length+ys.length) gI=true)(ht:Y.top s=l.length):CG P Y st t u (.ak (.own sz s) l) (.ak c2 ys)=some (.ak (.own sz s) (l++ys),Y.eB s (l.length+ys.length)):=by
 rw[aiJ ha hy];simp only[hr,CJ hl,and_self,if_true,ht]
theorem aul {P:Program}{Y:ah}{st t u sz gI:Nat}{z:V}{l:List V}{c2:Cap}{ys:List V}(ha:Fb P t u sz gI z)(hy:wW sz ys=true)(hl:wW sz l=true)(hr:cB (l.length+ys.length) gI=true):CG P Y st t u (.ak .nil l) (.ak c2 ys)=some (.ak (.own sz st) (l++ys),Y.eB st (l.length+ys.length)):=by
 rw[aiJ ha hy];simp only[hr,CJ hl,and_self,if_true]
def R7 (E:Env)(t:TypeId)(ps:List (Nat×V)):Option (List V):=(Ho E t).bind fun pl=>(je E.P t).bind fun z=>sH pl z.cells ps
section
variable {E:Env}{S:iV}{fr:Fr}{Y:ah}{st:Nat}{d:Option Tmp}{ty:TypeId}{pos:String}{cK:Array Edge}{gd:Option (Nat×Bool)}
theorem aum (t:TypeId)(l:List (Nat×Operand)):opC E S fr Y st ⟨d,.build t l.toArray,ty,pos,cK,gd⟩=(R7 E t (l.map fun p=>(p.1,fr.ev E p.2))).map fun cs=>(.agg cs,fr,Y):=by
 simp only[opC,dM,R7];cases Ho E t with
 |none=>rfl|some pl=>
  simp only[Option.bind_some];cases je E.P t with
  |none=>rfl|some z=>simp only[Option.bind_some];cases sH pl z.cells (l.map fun p=>(p.1,fr.ev E p.2))<;>rfl
theorem aun (t:TypeId)(n:Nat)(l:List (Nat×Operand))(h:zx E d=false):opC E S fr Y st ⟨d,.buildSlice t n l.toArray,ty,pos,cK,gd⟩=(Cn E t n (l.map fun p=>(p.1,fr.ev E p.2))).map fun v=>(v,fr,Y):=by unfold opC;dsimp only;unfold dM;dsimp only;rw[h,if_neg aD];cases Cn E t n (l.map fun p=>(p.1,fr.ev E p.2))<;>rfl
end
section
variable {E:Env}{S:iV}{fr:Fr}{Y:ah}{st:Nat}{d:Option Tmp}{ty:TypeId}{pos:String}{cK:Array Edge}{gd:Option (Nat×Bool)}
theorem aiK {P:Program}{t:TypeId}{s:List UInt8}{k:IntKind}{i:Int}(h:XC P t=true):EP P t (.str s) (.int k i)=(aH s i).map fun b=>.int .u8 (b.toNat:Nat):=by
 unfold XC at h;unfold EP;split at h
 .rename_i he;rw[he];simp only[idx,pQ,Option.bind_some,aH];split
  .simp only[Option.bind_some];rfl
  .rfl
 .simp at h
def imax (a b:Int):Int:=if b>a then b else a
def wX (a b:Int):Int:=if b<a then b else a
end
theorem len1 (v:V):[v].length=1:=rfl
attribute [go_sem] aiK auf aug aiH R5 aum aun iH List.map_nil len1 XK yD implies_true eq_self
end aR
end
