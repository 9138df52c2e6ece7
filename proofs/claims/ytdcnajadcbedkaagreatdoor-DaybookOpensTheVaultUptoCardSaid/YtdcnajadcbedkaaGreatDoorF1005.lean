import Derived.Test.YtdcnajadcbedkaaGreatDoorF1004
set_option linter.all false
section
namespace aQ
open Go Go.RowKit
theorem exists_least {p:Nat->Prop}(h:∃n,p n):∃n,p n/\∀m,p m->n<=m:=by
 obtain⟨n,hn⟩:=h;induction n using Nat.strongRecOn with
 |_ n ih=>
  by_cases hm:∃m,m<n/\p m
  .obtain⟨m,hm1,hm2⟩:=hm;exact ih m hm1 hm2
  .exact⟨n,hn,fun m hm'=>Classical.byContradiction fun hlt=>hm ⟨m,RS,hm'⟩⟩
open Classical in
noncomputable def least (p:Nat->Prop):Nat:=if h:∃n,p n then (exists_least h).choose else 0
theorem ahx {p:Nat->Prop}(h:∃n,p n):p (least p)/\∀m,p m->least p<=m:=by unfold least;rw[dif_pos h];exact(exists_least h).choose_spec
theorem ar6 {F:Fence}{rm:Nat}{P:Program}{Q:Exit->Act->World->Prop}{a:Act}{w:World}{c:Code}(I:Nat->Act->World->Prop)(n₀:Nat)(h₀:I n₀ a w)(round:∀n a w,I n a w->c.wpIn F rm P (Exit.then (fun a' w'=>∃n',n'<n/\I n' a' w') Q) a w):(Code.loop c).wpIn F rm P Q a w:=by
 refine wpIn_loop (fun a w=>∃n,I n a w) (fun a w=>least (fun n=>I n a w)) ⟨n₀,h₀⟩ ?_;intro a w hI;refine wpIn_mono (round _ a w (ahx hI).1) ?_;intro e a' w' hq;cases e with
 |normal=>obtain⟨n',hlt,hI'⟩:=hq;exact show (∃n,I n a' w')/\least (fun n=>I n a' w')<least (fun n=>I n a w) from ⟨⟨n',hI'⟩,Nat.lt_of_le_of_lt ((ahx ⟨n',hI'⟩).2 n' hI') hlt⟩
 |exit id=>exact hq|goto l=>exact hq|ret=>exact hq|panic ch=>exact hq|outgrown=>exact hq
section
variable {E:Env}
def ahy (E:Env)(code:Code->Fr->ah->Option (Ex×Fr×ah))(c:Code):Prop:=∀fr Y e fr' Y',code c fr Y=some (e,fr',Y')->qy E c fr Y e fr' Y'
theorem ar7 (hE:o8 E)(n:Nat)(hS:∀m,m<=n->Sound E (bI E m)):∀c,ahy E (eu E (bI E n)) c:=by
 intro c;induction c with
 |skip=>intro fr Y e fr' Y' h;simp only[eu,iE,mF] at h;obtain⟨rfl,rfl,rfl⟩:=h;exact aqn
 |region id ops dr=>intro fr Y e fr' Y' h;exact arT hE (hS n (iR _)) h|seq x y Mj ihy=>
  intro fr Y e fr' Y' h;simp only[eu,iP] at h;obtain⟨⟨e1,bJ,aB⟩,h1,h⟩:=h;cases e1 with
  |normal=>exact aqt (Mj _ _ _ _ _ h1) (ihy _ _ _ _ _ h)|exit i=>simp only[iE,mF] at h;obtain⟨rfl,rfl,rfl⟩:=h;exact agT aD (Mj _ _ _ _ _ h1)
  |ret=>simp only[iE,mF] at h;obtain⟨rfl,rfl,rfl⟩:=h;exact agT aD (Mj _ _ _ _ _ h1)
 |cond c x y Mj ihy=>
  intro fr Y e fr' Y' h;simp only[eu,iP] at h;obtain⟨t,ht,h⟩:=h;refine aqu ht ?_;cases t
  .exact ihy _ _ _ _ _ ze
  .exact Mj _ _ _ _ _ ze
 |block id c ih=>
  intro fr Y e fr' Y' h;simp only[eu,aY] at h;obtain⟨⟨e1,bJ,aB⟩,h1,h⟩:=h;have:=aqv (id:=id) (ih _ _ _ _ _ h1);cases e1 with
  |normal=>simp only[mF] at h;obtain⟨rfl,rfl,rfl⟩:=h;exact this
  |ret=>simp only[mF] at h;obtain⟨rfl,rfl,rfl⟩:=h;exact this
  |exit i=>
   simp only[Ww] at this;simp only at h;split at h
   .rename_i hi;simp only[mF] at h;obtain⟨rfl,rfl,rfl⟩:=h
    rwa[if_pos hi] at this
   .rename_i hi;simp only[mF] at h;obtain⟨rfl,rfl,rfl⟩:=h
    rwa[if_neg hi] at this
 |loop c ih=>
  intro fr Y e fr' Y' h;have hm:(bI E (n+1)).code (.loop c) fr Y=some (e,fr',Y'):=h;have hbody:∀k,k<=n->ahy E (eu E (bI E k)) c:=by
   intro k hk;by_cases hkn:k=n
   .subst hkn;exact ih
   .intro fr Y e fr' Y' hc;exact(hS (k+1) RS).code c fr Y e fr' Y' hc
  have hnext:∀(k:Nat)(fr:Fr)(Y:ah),k<=n+1->(bI E k).code (.loop c) fr Y=some (e,fr',Y')->Y.next<=Y'.next:=by
   intro k;induction k with
   |zero=>intro fr Y _ hh;cases hh|succ k ihk=>
    intro fr Y hk hh;have hh':eu E (bI E k) (.loop c) fr Y=some (e,fr',Y'):=hh;simp only[eu,iP] at hh';obtain⟨⟨e1,bJ,aB⟩,h1,h2⟩:=hh';have hb:=(hbody k RS _ _ _ _ _ h1).1;cases e1 with
    |normal=>exact eZ hb (ihk bJ aB RS h2)|exit i=>simp only[iE,mF] at h2;obtain⟨_,_,rfl⟩:=h2;exact hb
    |ret=>simp only[iE,mF] at h2;obtain⟨_,_,rfl⟩:=h2;exact hb
  refine⟨hnext (n+1) fr Y (iR _) hm,fun ro B0 K w a sz ds hs hok hnr=>?_⟩;refine ar6 (fun m a1 w1=>m<=n+1/\∃bJ aB K1,(bI E m).code (.loop c) bJ aB=some (e,fr',Y')/\St E B0 aB K1 w1 bJ a1 sz ds/\Step E B0 (newer Y aB) Y K w aB K1 w1/\Y.next<=aB.next) (n+1)
   ⟨iR _,fr,Y,K,hm,hs,.refl hs.ok,iR _⟩ ?_
  rintro m a1 w1 ⟨hmn,bJ,aB,K1,hcode,hs1,st1,hle1⟩;cases m with
  |zero=>cases hcode|succ k=>
   have hh':eu E (bI E k) (.loop c) bJ aB=some (e,fr',Y'):=hcode;simp only[eu,iP] at hh';obtain⟨⟨e2,jd,cO⟩,h1,h2⟩:=hh';obtain⟨hle2,hwp⟩:=hbody k RS _ _ _ _ _ h1;refine wpIn_mono (hwp ro B0 K1 w1 a1 sz ds hs1 hok hnr) ?_;rintro x a2 w2 ⟨hx,K2,hs2,st2⟩;cases e2 with
   |normal=>
    cases x<;>simp only[nT] at hx;exact⟨k,Er k,RS,jd,cO,K2,h2,hs2,st1.widen st2 hle1 hle2,eZ hle1 hle2⟩
   |exit i=>simp only[iE,mF] at h2;obtain⟨rfl,rfl,rfl⟩:=h2;cases x<;>simp only[nT] at hx;exact⟨hx,K2,hs2,st1.widen st2 hle1 hle2⟩
   |ret=>simp only[iE,mF] at h2;obtain⟨rfl,rfl,rfl⟩:=h2;cases x<;>simp only[nT] at hx;exact⟨trivial,K2,hs2,st1.widen st2 hle1 hle2⟩
 |rangeFunc f ps x y=>intro fr Y e fr' Y' h;exact arY hE (hS n (iR _)) h|exit id=>intro fr Y e fr' Y' h;simp only[eu,iE,mF] at h;obtain⟨rfl,rfl,rfl⟩:=h;exact aqo id
 |scope c ih=>intro fr Y e fr' Y' h;simp only[eu] at h;exact aqs (ih _ _ _ _ _ h)|label l=>intro fr Y e fr' Y' h;simp only[eu,iE,mF] at h;obtain⟨rfl,rfl,rfl⟩:=h;exact aqr l
 |goto l=>intro fr Y e fr' Y' h;simp[eu] at h|ret=>intro fr Y e fr' Y' h;simp only[eu,iE,mF] at h;obtain⟨rfl,rfl,rfl⟩:=h;exact aqp
 |refuse why=>intro fr Y e fr' Y' h;simp[eu] at h
variable {B0:Nat}{Y:ah}{K:bA}{w:World}{fr:Fr}
def Mk (tmps:Array Value):ResultVar->Sem Value
 |.tmp t=>pure (tmps.getD t undef)|.cell a t=>do loadVar t (<-asAddr (tmps.getD a undef))
theorem ar8 (h:bH E B0 Y K w){tmps:Array Value}(hf:mU K Y.top w fr tmps){r:ResultVar}{v:V}(hv:jC E fr Y r=some v):
 ∃c,(Mk tmps r).run E.P w= .ok c w/\Rel K Y.top w v c:=by
 cases r with
 |tmp t=>simp only[jC,iE] at hv;subst hv;exact⟨_,rfl,hf t⟩|cell a t=>
  simp only[jC] at hv;have ha:=hf a;cases hx:fr.tm a with
  |ref loc s off=>
   rw[hx] at hv ha;simp only at hv;obtain⟨c,h1,h2⟩:=V9 h (t:=t) ha (v:=v) hv;simp only[Mk];generalize tmps.getD a undef=ca at h1 ha;cases ha with
   |ref _ _ _ hA=>refine⟨c,?_,h2⟩;simpa [Instr.loadAt,Instr.sureAddr,asAddr] using h1
  |_=>rw[hx] at hv;simp at hv
theorem ahz (h:bH E B0 Y K w){tmps:Array Value}(hf:mU K Y.top w fr tmps):∀(rs:List ResultVar)(vs:List V),rs.mapM (jC E fr Y)=some vs->
 ∃cs:List Value,(rs.mapM (Mk tmps)).run E.P w= .ok cs w/\vs.length=cs.length/\
  ∀i,i<vs.length->Rel K Y.top w (vs.getD i aP) (cs.getD i undef):=by
 intro rs;induction rs with
 |nil=>intro vs hv;simp at hv;subst hv;exact⟨[],aD,rfl,fun i hi=>absurd hi (gQ i)⟩
 |cons r rs ih=>
  intro vs hv;simp only[iN,Option.pure_def,Option.bind_eq_bind,iP,iE] at hv;obtain⟨v,h1,vs',h2,rfl⟩:=hv;obtain⟨c,g1,g2⟩:=ar8 h hf h1;obtain⟨cs,k1,k2,k3⟩:=ih vs' h2;refine⟨c::cs,?_,by simp[k2],fun i hi=>?_⟩
  .simp only[iN,Sem.run_bind,g1,Result.andThen_ok,k1,Sem.run_pure]
  .cases i with
   |zero=>exact g2|succ i=>exact k3 i kg
theorem ar9 {fn:Func}{tmps:Array Value}{R:Ending->World->Prop}{B1:Nat}(hB1:B0<=B1)(qA:Nat->Prop):∀(bs:List Nat)(K:bA)(w:World),bH E B0 Y K w->B0<=w.heap.size->bs.Nodup->(∀b∈bs,K.D b/\B1<=b)->(∀b,qA b->K.D b)->(∀b,qA b->b<B1)->(∀w1,Step E B0 (fun _=>False) Y {K with D:=qA} w Y {K with D:=qA} w1->LeavesIn Fence.wide 0 E.P fn tmps R [] .returning w1)->LeavesInM Fence.wide 0 E.P fn tmps R (bs.map mark) .returning w:=by
 intro bs;induction bs with
 |nil=>intro K w h _ _ _ hk _ hl;refine hl w (.refl (h.Rs qA (fun b hb=>h.D b (hk b hb))))
 |cons b bs ih=>
  intro K w h hB hnd hbs hk hlt hl;obtain⟨hb,Ml⟩:=hbs b aD;have hheap:=h.D b hb;have hput:=bH.Rt (Y':=Y) (new:=fun _=>False) (o':=.deferred none) h hB (eZ hB1 Ml) hheap (fun _ _ _=>aD) (fun _ _=>aD)
   (fun l r hl=>by obtain⟨_,_,_,_,_,_,hh,_⟩:=h.loop l r hl;exact⟨hl,wK hh hheap aD⟩) rfl rfl
  have ok1:bH E B0 Y {K with D:=fun x=>K.D x/\x≠b} (w.putObj b (.deferred none)):=by
   have ho:=WE w b (.deferred none);have h0:bH E B0 Y {K with D:=fun _=>False} w:=h.Rs _ (fun b hb=>hb.elim);have hp:=(bH.Rt (Y':=Y) (new:=fun _=>False) (o':=.deferred none) h0 hB (eZ hB1 Ml) hheap (fun _ _ _=>aD) (fun _ _=>aD)
    (fun l r hl=>by obtain⟨_,_,_,_,_,_,hh,_⟩:=h.loop l r hl;exact⟨hl,wK hh hheap aD⟩) rfl rfl (fun _=>False) (fun x hx=>hx.elim) (fun _ h=>h)).2
   exact hp.Rs (fun x=>K.D x/\x≠b) (fun x hx=>by rw[World.putObj_heap_other hx.2];exact h.D x hx.1)
  refine⟨aD,.inl ⟨b,w.putObj b (.deferred none),rfl,run_takeDeferred hheap,?_⟩⟩;refine ih {K with D:=fun x=>K.D x/\x≠b} (w.putObj b (.deferred none)) ok1 (by simpa using hB) (Ao.1 hnd).2
   (fun x hx=>⟨⟨(hbs x (by simp[hx])).1,fun e=>(Ao.1 hnd).1 (e▸hx)⟩,(hbs x (by simp[hx])).2⟩) (fun x hx=>⟨hk x hx,fun e=>by have:=hlt x hx;omega⟩) hlt (fun w1 st=>hl w1 ?_)
  have WZ:bH E B0 Y {K with D:=qA} w:=h.Rs qA (fun b hb=>h.D b (hk b hb));have st0:=(bH.Rt (Y':=Y) (new:=fun _=>False) (o':=.deferred none) WZ hB (eZ hB1 Ml) hheap (fun _ _ _=>aD) (fun _ _=>aD)
   (fun l r hl=>by obtain⟨_,_,_,_,_,_,hh,_⟩:=h.loop l r hl;exact⟨hl,wK hh hheap aD⟩) rfl rfl qA (fun x hx=>⟨hx,fun e=>by have h1:x<B1:=hlt x hx;omega⟩) (fun _ h=>h)).1
  exact st0.trans st
theorem asa (n:Nat)(hS:Hf E (bI E n).code):EL E (qP E (bI E n)):=by
 intro f args d Y v Y' h;simp only[qP,iP] at h;obtain⟨fn,hfn,c,hc,h⟩:=h;split at h
 .rename_i hok;simp only[iP] at h;obtain⟨⟨e,bJ,aB⟩,hcode,h⟩:=h;have hne:e= .normal\/e= .ret:=by
   cases e with
   |normal=>exact .inl rfl|ret=>exact .inr rfl|exit i=>simp at h
  have h':(fn.results.toList.mapM (jC E bJ aB)).map (fun vs=>(match vs with| [v]=>v|vs=>.bV vs,aB))=some (v,Y'):=by rcases hne with rfl|rfl<;>exact h
  simp only[aY,mF] at h';obtain⟨vs,hvs,hv,rfl⟩:=h';obtain⟨hle,hwp⟩:=hS _ _ _ _ _ _ hcode;refine⟨hle,⟨fn,c,hfn,hc⟩,fun ro B0 K w dO hs hB hA hr=>?_⟩;have hsz:dO.size=args.length:=hr.1.symm;have hst:St E B0 Y K w {d:=d,aj:=E.aj f,tm:=fun i=>args.getD i aP} {tmps:=dO++Array.replicate (fn.ntmps-dO.size) undef,defers:=[]} fn.ntmps ⟨[],w.heap.size,false⟩:=by
   refine⟨hs,hB,fun t=>?_,dw,⟨[],rfl,List.nodup_nil,(fun b hb=>by cases hb),fun _=>rfl⟩,hA,iR _⟩;show Rel K Y.top w (args.getD t aP) _;by_cases ht:t<args.length
   .have e1:(dO++Array.replicate (fn.ntmps-dO.size) undef).getD t undef=dO.getD t undef:=(by simp only[zh];rw[Array.getElem?_append_left RS]);rw[e1];exact hr.2 t ht
   .have e1:(dO++Array.replicate (fn.ntmps-dO.size) undef).getD t undef=undef:=(by simp only[zh];rw[Array.getElem?_append_right RS,Array.getElem?_replicate];split<;>rfl);have e2:args.getD t aP=aP:=(by simp[List.getD,List.getElem?_eq_none (Nat.le_of_not_lt ht)]);rw[e1,e2];exact .undef _ _ _
  have hwp':=hwp none B0 K w _ fn.ntmps ⟨[],w.heap.size,false⟩ hst hok.2 (.inl ⟨rfl,rfl⟩);have W9:CallsIn Fence.wide 0 E.P f dO w (wO E B0 Y K w v aB):=by
   refine callsIn_of_wp_marks hfn hc trivial (wpIn_mono hwp' ?_);rintro x a' w' ⟨hx,K',hs',st'⟩;have hleave:LeavesInM Fence.wide 0 E.P fn a'.tmps (wO E B0 Y K w v aB) a'.defers .returning w':=by
    obtain⟨bs,d1,d2,d3,_⟩:=hs'.df;rw[d1,jD];refine ar9 (B1:=w.heap.size) hB K.D bs K' w' hs'.ok hs'.hB d2 d3 st'.D (fun b hb=>lt_of_heap (hs.D b hb)) (fun w1 Rx=>?_);have HY:=Rx.ok;have hf2:mU {K' with D:=K.D} aB.top w1 bJ a'.tmps:=(by have e1:Ext K' aB.top w' {K' with D:=K.D} aB.top w1:=(WY K' aB.top w' K.D).trans Rx.ext;exact hs'.fr.ext e1);obtain⟨cs,k1,k2,k3⟩:=ahz HY hf2 fn.results.toList vs hvs;have hrun:(results fn a'.tmps).run E.P w1= .ok (if h:cs.toArray.size=1 then cs.toArray[0] else .tuple cs.toArray) w1:=(by have hres:results fn a'.tmps=(do let vs<-fn.results.mapM (Mk a'.tmps);pure (if h:vs.size=1 then vs[0] else .tuple vs)):=rfl;rw[hres,Array.mapM_eq_mapM_toList];simp only[Sem.run_bind,Sem.run_map,k1,Result.andThen_ok,Sem.run_pure]);have Rb:Step E B0 (newer Y aB) Y K w aB {K' with D:=K.D} w1:=
     ⟨HY,st'.ext.trans ((WY K' aB.top w' K.D).trans Rx.ext),st'.below.trans Rx.below,fun _ h=>h,st'.A,st'.zn,st'.zo⟩
    refine⟨_,hrun,{K' with D:=K.D},?_,HY,hs'.st,Rb⟩;rw[<-hv];cases vs with
    |nil=>have:cs=[]:=QC;subst this;exact .bV [] #[] rfl (fun i hi=>absurd hi (gQ i))
    |cons v1 vs=>
     cases cs with
     |nil=>simp at k2|cons c1 cs=>
      cases vs with
      |nil=>have:cs=[]:=QC;subst this;have:=k3 0 aD;simpa using this|cons v2 vs=>have hsz2:¬((c1::cs).toArray.size=1):=(by simp only[List.length_cons,Nat.add_right_cancel_iff] at k2;rw[List.size_toArray,List.length_cons];omega);rw[dif_neg hsz2];refine .bV _ _ (by simpa using k2) (fun i hi=>?_);have:=k3 i hi;simpa [zh,List.getD] using this
   rcases hne with rfl|rfl<;>cases x<;>simp only[nT] at hx<;>exact hleave
  exact W9
 .simp at h
theorem Ry (hE:o8 E):∀n,Sound E (bI E n):=by
 have all:∀n m,m<=n->Sound E (bI E m):=by
  intro n;induction n with
  |zero=>
   intro m hm;obtain rfl:m=0:=RS
   exact⟨(fun _ _ _ _ _ _ h=>cZ),(fun _ _ _ _ _ _ h=>cZ)⟩
  |succ n ih=>
   intro m hm;by_cases hmn:m<=n
   .exact ih m hmn
   .obtain rfl:m=n+1:=RS;exact⟨fun c fr Y e fr' Y' h=>ar7 hE n ih c fr Y e fr' Y' h,asa n (ih n (iR _)).code⟩
 exact fun n=>all n n (iR _)
theorem asb (hE:o8 E){n:Nat}{f:FuncId}{args:List V}{v:V}(h:mQ E (bI E n) f args=some v):rT E f args v:=agX hE (Ry hE n).call h
end
end aQ
end
section
namespace aQ
open Go
section
variable {E:Env}
def jG (S T:iW):Prop:=(∀c fr Y r,S.code c fr Y=some r->T.code c fr Y=some r)/\∀f args d Y r,S.call f args d Y=some r->T.call f args d Y=some r
variable {S T:iW}
theorem HZ (h:jG S T){f:FuncId}{args:List V}{v:V}(hc:mQ E S f args=some v):mQ E T f args=some v:=by
 unfold mQ at hc⊢;cases hg:E.mP f with
 |some g=>simp only[hg] at hc⊢;exact hc|none=>simp only[hg,iP] at hc⊢;obtain⟨x,h1,h2⟩:=hc;exact⟨x,h.2 _ _ _ _ _ h1,h2⟩
theorem Xa (h:jG S T){l:Nat}{args:List V}{Y:ah}{r:V×ah}(hc:yt S l args Y=some r):yt T l args Y=some r:=by
 unfold yt at hc⊢;simp only[iP] at hc⊢;obtain⟨r0,hl,hc⟩:=hc;refine⟨r0,hl,?_⟩;split at hc
 .rename_i hst;rw[if_pos hst];simp only[iP] at hc⊢;obtain⟨⟨e1,bJ,aB⟩,LZ,hc⟩:=hc;refine⟨(e1,bJ,aB),h.1 _ _ _ _ LZ,?_⟩;cases e1 with
  |normal=>
   simp only[iP] at hc⊢;obtain⟨r1,hl1,hc⟩:=hc;refine⟨r1,hl1,?_⟩;split at hc
   .rename_i Hl;rw[if_pos Hl];simp only[iP] at hc⊢;obtain⟨x,hb,y,hy,hc⟩:=hc;exact⟨x,h.1 _ _ _ _ hb,y,hy,hc⟩
   .simp at hc
  |exit i=>simp at hc|ret=>simp at hc
 .simp at hc
theorem ahA (h:jG S T){d:Nat}{Y:ah}{fv:V}{args:List V}{r:V×ah}(hc:jL E S d Y fv args=some r):jL E T d Y fv args=some r:=by
 unfold jL at hc⊢;split at hc
 .split at hc
  .rename_i hi;simp only[hi,if_true];exact h.2 _ _ _ _ _ hc
  .rename_i hi;simp only[iP] at hc;obtain⟨dN,h1,v,h2,h3⟩:=hc;simp only[hi,h1,Option.bind_some,HZ h h2];exact h3
 .exact Xa h hc
 .simp at hc
theorem ahB (h:jG S T){Y:ah}{st:Nat}{fv:V}{args:List V}{r:V×ah}(hc:qO E S Y st fv args=some r):qO E T Y st fv args=some r:=by
 unfold qO at hc⊢;split at hc
 .split at hc
  .rename_i hi;simp only[iP] at hc;obtain⟨dN,h1,v,h2,h3⟩:=hc;simp only[hi,if_true,h1,Option.bind_some,h.2 _ _ _ _ _ h2];exact h3
  .cases hc
 .cases hc
theorem Xb (h:jG S T){fr:Fr}{Y:ah}{st:Nat}{o:Oper}{r:V×Fr×ah}(hc:opC E S fr Y st o=some r):opC E T fr Y st o=some r:=by
 unfold opC at hc⊢;split at hc
 .rename_i c ho;simp only[ho] at hc⊢;split at hc
  .exact hc
  .rename_i f hf;split at hc
   .rename_i eX;simp only[eX,if_true];simp only[aY] at hc⊢;obtain⟨x,h1,h2⟩:=hc;exact⟨x,ahB h h1,h2⟩
   rename_i eX;simp only[eX,if_false,dG];simp only[aY] at hc⊢;obtain⟨x,h1,h2⟩:=hc;exact⟨x,ahA h h1,h2⟩
  .simp at hc
 .simp at hc
 .exact hc
theorem Mq (h:jG S T)(all:List Oper):∀(os:List Oper)(st:Nat)(fr:Fr)(Y:ah)(r:Fr×ah),opsE E S all st os fr Y=some r->opsE E T all st os fr Y=some r:=by
 intro os;induction os with
 |nil=>intro st fr Y r hc;exact hc|cons o os ih=>
  intro st fr Y r hc;simp only[opsE,iP] at hc⊢;obtain⟨t,h1,h2⟩:=hc;refine⟨t,h1,?_⟩;cases t with
  |true=>simp only[if_true,iP] at h2⊢;obtain⟨x,h3,h4⟩:=h2;exact⟨x,Xb h h3,ih _ _ _ _ h4⟩
  |false=>simp only[dG,if_false] at h2⊢;exact ih _ _ _ _ h2
theorem Rz (h:jG S T)(all:List Oper):∀(os:List Oper)(st:Nat)(fr:Fr)(Y:ah)(r:List dP×Fr×ah),mR E S all st os fr Y=some r->mR E T all st os fr Y=some r:=by
 intro os;induction os with
 |nil=>intro st fr Y r hc;exact hc|cons o os ih=>
  intro st fr Y r hc;simp only[mR,iP] at hc⊢;obtain⟨t,h1,h2⟩:=hc;refine⟨t,h1,?_⟩;cases t with
  |true=>simp only[if_true,iP,aY] at h2⊢;obtain⟨x,h3,y,h4,h5⟩:=h2;exact⟨x,Xb h h3,y,ih _ _ _ _ h4,h5⟩
  |false=>simp only[dG,if_false,aY] at h2⊢;obtain⟨y,h4,h5⟩:=h2;exact⟨y,ih _ _ _ _ h4,h5⟩
theorem Mr (h:jG S T){ops:List Oper}{base i:Nat}{fr:Fr}{Y:ah}{r:Fr×ah}(hc:jk E S ops base i fr Y=some r):jk E T ops base i fr Y=some r:=by
 unfold jk at hc⊢;split at hc
 .exact hc
 .simp only[iP] at hc⊢;obtain⟨t,h1,h2⟩:=hc;refine⟨t,h1,?_⟩;cases t with
  |true=>simp only[if_true,aY] at h2⊢;obtain⟨x,h3,h4⟩:=h2;exact⟨x,Xb h h3,h4⟩
  |false=>simpa using h2
theorem asc (h:jG S T){ms:List Nat}{ops:List Oper}{base:Nat}{x y:Fr×ah}(hf:Free E S ms ops base x y):Free E T ms ops base x y:=by obtain⟨s,T',W,h0,hn,EM,hloc,hr⟩:=hf;refine⟨s,T',W,h0,hn,EM,fun i hi x hx=>?_,hr⟩;obtain⟨y,h1,h2⟩:=hloc i hi x hx;exact⟨y,Mr h h1,h2⟩
theorem zw (h:jG S T):∀(c:Code)(fr:Fr)(Y:ah)(r:Ex×Fr×ah),eu E S c fr Y=some r->eu E T c fr Y=some r:=by
 intro c;induction c with
 |region id ops dr=>
  intro fr Y r hc;simp only[eu] at hc⊢;split at hc
  .rename_i hd;simp only[hd,if_true,iP] at hc⊢;obtain⟨x,h1,h2⟩:=hc;refine⟨x,Rz h _ _ _ _ _ _ h1,?_⟩;split at h2
   .rename_i hp;rw[if_pos hp];exact h2
   .rename_i hp;rw[if_neg hp];unfold Lv at h2⊢;split at h2
    .rename_i hf;rw[if_pos ⟨hf.1,asc h hf.2⟩];exact h2
    .cases h2
  .rename_i hd;simp only[hd,dG,if_false,aY] at hc⊢;obtain⟨x,h1,h2⟩:=hc;exact⟨x,Mq h _ _ _ _ _ _ h1,h2⟩
 |seq a b iha ihb=>
  intro fr Y r hc;simp only[eu,iP] at hc⊢;obtain⟨⟨e,bJ,aB⟩,h1,h2⟩:=hc;refine⟨(e,bJ,aB),iha _ _ _ h1,?_⟩;cases e with
  |normal=>exact ihb _ _ _ h2|exit i=>exact h2|ret=>exact h2
 |cond c a b iha ihb=>
  intro fr Y r hc;simp only[eu,iP] at hc⊢;obtain⟨t,h1,h2⟩:=hc;refine⟨t,h1,?_⟩;cases t with
  |true=>simp only[if_true] at h2⊢;exact iha _ _ _ h2|false=>simp only[dG,if_false] at h2⊢;exact ihb _ _ _ h2
 |block id c ih=>intro fr Y r hc;simp only[eu,aY] at hc⊢;obtain⟨x,h1,h2⟩:=hc;exact⟨x,ih _ _ _ h1,h2⟩
 |loop c ih=>
  intro fr Y r hc;simp only[eu,iP] at hc⊢;obtain⟨⟨e,bJ,aB⟩,h1,h2⟩:=hc;refine⟨(e,bJ,aB),ih _ _ _ h1,?_⟩;cases e with
  |normal=>exact h.1 _ _ _ _ h2|exit i=>exact h2|ret=>exact h2
 |rangeFunc f ps a b iha ihb=>
  intro fr Y r hc;simp only[eu] at hc⊢;split at hc
  .rename_i hf;rw[if_pos hf];simp only[iP] at hc⊢;obtain⟨x,h1,h2⟩:=hc;exact⟨x,ahA h h1,h2⟩
  .simp at hc
 |scope c ih=>intro fr Y r hc;simp only[eu] at hc⊢;exact ih _ _ _ hc|_=>intro fr Y r hc;simpa [eu] using hc
theorem ahC (h:jG S T){f:FuncId}{args:List V}{d:Nat}{Y:ah}{r:V×ah}(hc:qP E S f args d Y=some r):qP E T f args d Y=some r:=by
 simp only[qP,iP] at hc⊢;obtain⟨fn,h1,c,h2,h3⟩:=hc;refine⟨fn,h1,c,h2,?_⟩;split at h3
 .rename_i hok;rw[if_pos hok];simp only[iP] at h3⊢;obtain⟨x,h4,h5⟩:=h3;exact⟨x,h.1 _ _ _ _ h4,h5⟩
 .simp at h3
theorem ase:∀n,jG (bI E n) (bI E (n+1)):=by
 intro n;induction n with
 |zero=>exact⟨(fun _ _ _ _ h=>cZ),(fun _ _ _ _ _ h=>cZ)⟩
 |succ n ih=>exact⟨fun c fr Y r h=>zw ih c fr Y r h,fun f args d Y r h=>ahC ih h⟩
theorem jG.refl (S:iW):jG S S:=⟨fun _ _ _ _ h=>h,fun _ _ _ _ _ h=>h⟩
theorem jG.trans {S T ahD:iW}(h:jG S T)(g:jG T ahD):jG S ahD:=⟨fun _ _ _ _ x=>g.1 _ _ _ _ (h.1 _ _ _ _ x),fun _ _ _ _ _ x=>g.2 _ _ _ _ _ (h.2 _ _ _ _ _ x)⟩
theorem jM {n m:Nat}(h:n<=m):jG (bI E n) (bI E m):=by
 induction m with
 |zero=>obtain rfl:n=0:=RS
        exact .refl _
 |succ m ih=>
  by_cases e:n=m+1
  .subst e;exact .refl _
  .exact(ih RS).trans (ase m)
end
section
variable (E:Env)
def ay (all:List Oper)(st:Nat)(os:List Oper)(fr:Fr)(Y:ah)(Q:Fr->ah->Prop):Prop:=
 ∃n fr' Y',opsE E (bI E n) all st os fr Y=some (fr',Y')/\Q fr' Y'
def dJ (ms:List Nat)(all:List Oper)(st:Nat)(os:List Oper)(fr:Fr)(Y:ah)(fs:List dP)(Q:Fr->ah->Prop):Prop:=
 ∃n fs' fr' Y',mR E (bI E n) all st os fr Y=some (fs',fr',Y')/\Aw ms (fs++fs')=true/\Q fr' Y'
def aF (c:Code)(fr:Fr)(Y:ah)(Q:Ex->Fr->ah->Prop):Prop:=
 ∃n e fr' Y',eu E (bI E n) c fr Y=some (e,fr',Y')/\Q e fr' Y'
def Pure (f:FuncId)(args:List V)(v:V):Prop:=∃n,mQ E (bI E n) f args=some v
def iX (f:FuncId)(args:List V)(d:Nat)(Y:ah)(Q:V->ah->Prop):Prop:=∃n v Y',(bI E n).call f args d Y=some (v,Y')/\Q v Y'
end
section
variable {E:Env}{fr:Fr}{Y:ah}
theorem Pure.ok (hE:o8 E){f:FuncId}{args:List V}{v:V}(h:Pure E f args v):rT E f args v:=h.elim fun _ h=>asb hE h
theorem ay.mono {all:List Oper}{st:Nat}{os:List Oper}{Q Q':Fr->ah->Prop}(h:ay E all st os fr Y Q)(hq:∀fr Y,Q fr Y->Q' fr Y):ay E all st os fr Y Q':=
 let ⟨n,fr',Y',h1,h2⟩:=h;⟨n,fr',Y',h1,hq _ _ h2⟩
theorem aF.mono {c:Code}{Q Q':Ex->Fr->ah->Prop}(h:aF E c fr Y Q)(hq:∀e fr Y,Q e fr Y->Q' e fr Y):aF E c fr Y Q':=
 let ⟨n,e,fr',Y',h1,h2⟩:=h;⟨n,e,fr',Y',h1,hq _ _ _ h2⟩
theorem ay.nil {all:List Oper}{st:Nat}{Q:Fr->ah->Prop}(h:Q fr Y):ay E all st [] fr Y Q:=⟨0,fr,Y,rfl,h⟩
theorem ay.op {all:List Oper}{st:Nat}{o:Oper}{os:List Oper}{v:V}{aB:ah}{Q:Fr->ah->Prop}(hw:fJ all fr o=some true)(hop:∀S,opC E S fr Y st o=some (v,fr,aB))(h:ay E all (st+1) os (fr.put o.dst v) aB Q):ay E all st (o::os) fr Y Q:=by
 obtain⟨n,fr',Y',h1,h2⟩:=h;exact⟨n,fr',Y',by simp only[opsE,hw,Option.bind_some,if_true,hop,h1],h2⟩
theorem ay.skip {all:List Oper}{st:Nat}{o:Oper}{os:List Oper}{Q:Fr->ah->Prop}(hw:fJ all fr o=some false)(h:ay E all (st+1) os (fr.put o.dst aP) Y Q):ay E all st (o::os) fr Y Q:=by obtain⟨n,fr',Y',h1,h2⟩:=h;exact⟨n,fr',Y',by simp only[opsE,hw,Option.bind_some,dG,if_false,h1],h2⟩
theorem Xc {d:Nat}{g:FuncId}{a b args dN:List V}{v:V}{n:Nat}(hi:E.imp g=false)(has:(a++args++b).mapM (bq 20 Y)=some dN)(hp:mQ E (bI E n) g dN=some v)(hc:((a++args++b).all (fun x=>aR (er x))||flat v)=true):jL E (bI E n) d Y (.fn (.func g) a b) args=some (v,Y):=by
 unfold jL;simp only[hi,dG,if_false,has,Option.bind_some,hp,hc,if_true]
theorem zx {o:Oper}{f:Operand}{g:FuncId}{a b:List V}(hf:fr.ev E f= .fn (.func g) a b)(h:∀d,o.dst=some d->E.own g d=false):lU E fr o f=false:=by
 unfold lU;rw[hf];cases hd:o.dst with
 |none=>rfl|some d=>exact h d hd
def oM (E:Env)(f:FuncId)(dN:List V)(sz:Nat)(l:List V):Prop:=∃n v aB,(bI E n).call f dN 1 ah.init=some (v,aB)/\∀st Y,(∃c,(c= .nil\/c= .full)/\rO Y st aB v=some (.ak c l,Y))\/rO Y st aB v=some (.ak (.own sz st) l,Y.eB st l.length)
theorem oM.of {f:FuncId}{dN:List V}{sz:Nat}{l:List V}{n:Nat}{c:Cap}{aB:ah}(h:(bI E n).call f dN 1 ah.init=some (.ak c l,aB))(hp:bY l=true)(hc:c= .nil\/c= .full\/∃s,c= .own sz s/\aB.top s=l.length):oM E f dN sz l:=by
 refine⟨n,_,aB,h,fun st Y=>?_⟩;rcases hc with rfl|rfl| ⟨s,rfl,ht⟩
 .exact .inl ⟨.nil,.inl rfl,by unfold rO;dsimp only;rw[if_pos hp]⟩
 .exact .inl ⟨.full,.inr rfl,by unfold rO;dsimp only;rw[if_pos hp]⟩
 .exact .inr (by unfold rO;dsimp only;rw[if_pos hp,if_pos ht])
theorem ay.own {all:List Oper}{st:Nat}{o:Oper}{os:List Oper}{Q:Fr->ah->Prop}{c:Call}{f:Operand}{g:FuncId}{a b dN l:List V}{d sz:Nat}(hw:fJ all fr o=some true)(ho:o.op= .call c)(fV:c.callee= .value f)(hf:fr.ev E f= .fn (.func g) a b)(hd:o.dst=some d)(hown:E.own g d=true)(has:vv (E.zl g) Y (a++c.args.toList.map (fr.ev E)++b)=some dN)(hp:oM E g dN sz l)(hc:(a++c.args.toList.map (fr.ev E)++b).all (fun x=>aR (er x))=true)(h1:∀c,c= .nil\/c= .full->ay E all (st+1) os (fr.put o.dst (.ak c l)) Y Q)(h2:ay E all (st+1) os (fr.put o.dst (.ak (.own sz st) l)) (Y.eB st l.length) Q):ay E all st (o::os) fr Y Q:=by
 obtain⟨m,v0,aB,hm,hcp⟩:=hp;have eX:lU E fr o f=true:=by unfold lU;rw[hf,hd];exact hown
 have go:∀(v:V)(cO:ah),rO Y st aB v0=some (v,cO)->ay E all (st+1) os (fr.put o.dst v) cO Q->ay E all st (o::os) fr Y Q:=by
  rintro v cO hr ⟨n,fr',Y',g1,g2⟩;have hm':=(jM (qL n m)).2 _ _ _ _ _ hm;have g1':=Mq (jM (sK n m)) _ _ _ _ _ _ g1;refine⟨max n m,fr',Y',?_,g2⟩;have hov:qO E (bI E (max n m)) Y st (.fn (.func g) a b) (c.args.toList.map (fr.ev E))=some (v,cO):=by unfold qO;dsimp only;rw[if_pos hc,has,Option.bind_some,hm',Option.bind_some];exact hr
  simp only[opsE,hw,Option.bind_some,if_true,opC,ho,fV,eX];rw[hf,hov];simp only[Option.map_some,Option.bind_some,g1']
 rcases hcp st Y with ⟨c,hc,hr⟩|hr
 .exact go _ _ hr (h1 c hc)
 .exact go _ _ hr h2
theorem ay.call {all:List Oper}{st:Nat}{o:Oper}{os:List Oper}{v:V}{Q:Fr->ah->Prop}{c:Call}{f:Operand}{g:FuncId}{a b dN:List V}(hw:fJ all fr o=some true)(ho:o.op= .call c)(fV:c.callee= .value f)(hf:fr.ev E f= .fn (.func g) a b)(hi:E.imp g=false)(has:(a++c.args.toList.map (fr.ev E)++b).mapM (bq 20 Y)=some dN)(hp:Pure E g dN v)(hc:((a++c.args.toList.map (fr.ev E)++b).all (fun x=>aR (er x))||flat v)=true)(h:ay E all (st+1) os (fr.put o.dst v) Y Q)(eX:∀d,o.dst=some d->E.own g d=false:=by intros;rfl):ay E all st (o::os) fr Y Q:=by
 obtain⟨n,fr',Y',h1,h2⟩:=h;obtain⟨m,hm⟩:=hp;have hm':=HZ (jM (qL n m)) hm;have h1':=Mq (jM (sK n m)) _ _ _ _ _ _ h1;refine⟨max n m,fr',Y',?_,h2⟩;simp only[opsE,hw,Option.bind_some,if_true,opC,ho,fV,zx hf eX,dG,if_false,hf,Xc hi has hm' hc,Option.map_some,h1']
theorem ay.AJ {all:List Oper}{st:Nat}{o:Oper}{os:List Oper}{Q:Fr->ah->Prop}{c:Call}{f:Operand}{g:FuncId}{a b:List V}(hw:fJ all fr o=some true)(ho:o.op= .call c)(fV:c.callee= .value f)(hf:fr.ev E f= .fn (.func g) a b)(hi:E.imp g=true)(hp:iX E g (a++c.args.toList.map (fr.ev E)++b) (fr.d+1) Y (fun v aB=>ay E all (st+1) os (fr.put o.dst v) aB Q))(eX:∀d,o.dst=some d->E.own g d=false:=by intros;rfl):ay E all st (o::os) fr Y Q:=by
 obtain⟨m,v,aB,hm,n,fr',Y',h1,h2⟩:=hp;have hm':=(jM (qL n m)).2 _ _ _ _ _ hm;have h1':=Mq (jM (sK n m)) _ _ _ _ _ _ h1;refine⟨max n m,fr',Y',?_,h2⟩;have:jL E (bI E (max n m)) fr.d Y (.fn (.func g) a b) (c.args.toList.map (fr.ev E))=some (v,aB):=by unfold jL;simp only[hi,if_true];exact hm'
 simp only[opsE,hw,Option.bind_some,if_true,opC,ho,fV,zx hf eX,dG,if_false,hf,this,Option.map_some,h1']
theorem dJ.nil {ms:List Nat}{all:List Oper}{st:Nat}{fs:List dP}{Q:Fr->ah->Prop}(hp:Aw ms fs=true)(h:Q fr Y):dJ E ms all st [] fr Y fs Q:=⟨0,[],fr,Y,rfl,by simpa using hp,h⟩
theorem dJ.op {ms:List Nat}{all:List Oper}{st:Nat}{o:Oper}{os:List Oper}{v:V}{aB:ah}{fs:List dP}{Q:Fr->ah->Prop}(hw:fJ all fr o=some true)(hop:∀S,opC E S fr Y st o=some (v,fr,aB))(h:dJ E ms all (st+1) os (fr.put o.dst v) aB (fs++[d9 E all fr o true]) Q):dJ E ms all st (o::os) fr Y fs Q:=by
 obtain⟨n,fs',fr',Y',h1,h2,h3⟩:=h;exact⟨n,d9 E all fr o true::fs',fr',Y',by simp only[mR,hw,Option.bind_some,if_true,hop,h1,Option.map_some],uV,h3⟩
theorem dJ.skip {ms:List Nat}{all:List Oper}{st:Nat}{o:Oper}{os:List Oper}{fs:List dP}{Q:Fr->ah->Prop}(hw:fJ all fr o=some false)(h:dJ E ms all (st+1) os (fr.put o.dst aP) Y (fs++[d9 E all fr o false]) Q):dJ E ms all st (o::os) fr Y fs Q:=by
 obtain⟨n,fs',fr',Y',h1,h2,h3⟩:=h;exact⟨n,d9 E all fr o false::fs',fr',Y',by simp only[mR,hw,Option.bind_some,dG,if_false,h1,Option.map_some],uV,h3⟩
theorem dJ.call {ms:List Nat}{all:List Oper}{st:Nat}{o:Oper}{os:List Oper}{v:V}{fs:List dP}{Q:Fr->ah->Prop}{c:Call}{f:Operand}{g:FuncId}{a b dN:List V}(hw:fJ all fr o=some true)(ho:o.op= .call c)(fV:c.callee= .value f)(hf:fr.ev E f= .fn (.func g) a b)(hi:E.imp g=false)(has:(a++c.args.toList.map (fr.ev E)++b).mapM (bq 20 Y)=some dN)(hp:Pure E g dN v)(hc:((a++c.args.toList.map (fr.ev E)++b).all (fun x=>aR (er x))||flat v)=true)(h:dJ E ms all (st+1) os (fr.put o.dst v) Y (fs++[d9 E all fr o true]) Q)(eX:∀d,o.dst=some d->E.own g d=false:=by intros;rfl):dJ E ms all st (o::os) fr Y fs Q:=by
 obtain⟨n,fs',fr',Y',h1,h2,h3⟩:=h;obtain⟨m,hm⟩:=hp;have hm':=HZ (jM (qL n m)) hm;have h1':=Rz (jM (sK n m)) _ _ _ _ _ _ h1;refine⟨max n m,d9 E all fr o true::fs',fr',Y',?_,uV,h3⟩;simp only[mR,hw,Option.bind_some,if_true,opC,ho,fV,zx hf eX,dG,if_false,hf,Xc hi has hm' hc,Option.map_some,h1']
theorem dJ.own {ms:List Nat}{all:List Oper}{st:Nat}{o:Oper}{os:List Oper}{fs:List dP}{Q:Fr->ah->Prop}{c:Call}{f:Operand}{g:FuncId}{a b dN l:List V}{d sz:Nat}(hw:fJ all fr o=some true)(ho:o.op= .call c)(fV:c.callee= .value f)(hf:fr.ev E f= .fn (.func g) a b)(hd:o.dst=some d)(hown:E.own g d=true)(has:vv (E.zl g) Y (a++c.args.toList.map (fr.ev E)++b)=some dN)(hp:oM E g dN sz l)(hc:(a++c.args.toList.map (fr.ev E)++b).all (fun x=>aR (er x))=true)(h1:∀c,c= .nil\/c= .full->dJ E ms all (st+1) os (fr.put o.dst (.ak c l)) Y (fs++[d9 E all fr o true]) Q)(h2:dJ E ms all (st+1) os (fr.put o.dst (.ak (.own sz st) l)) (Y.eB st l.length) (fs++[d9 E all fr o true]) Q):dJ E ms all st (o::os) fr Y fs Q:=by
 obtain⟨m,v0,aB,hm,hcp⟩:=hp;have eX:lU E fr o f=true:=by unfold lU;rw[hf,hd];exact hown
 have go:∀(v:V)(cO:ah),rO Y st aB v0=some (v,cO)->dJ E ms all (st+1) os (fr.put o.dst v) cO (fs++[d9 E all fr o true]) Q->dJ E ms all st (o::os) fr Y fs Q:=by
  rintro v cO hr ⟨n,fs',fr',Y',g1,g2,g3⟩;have hm':=(jM (qL n m)).2 _ _ _ _ _ hm;have g1':=Rz (jM (sK n m)) _ _ _ _ _ _ g1;refine⟨max n m,d9 E all fr o true::fs',fr',Y',?_,by simpa using g2,g3⟩;have hov:qO E (bI E (max n m)) Y st (.fn (.func g) a b) (c.args.toList.map (fr.ev E))=some (v,cO):=by unfold qO;dsimp only;rw[if_pos hc,has,Option.bind_some,hm',Option.bind_some];exact hr
  simp only[mR,hw,Option.bind_some,if_true,opC,ho,fV,eX];rw[hf,hov];simp only[Option.map_some,Option.bind_some,g1']
 rcases hcp st Y with ⟨c,hc,hr⟩|hr
 .exact go _ _ hr (h1 c hc)
 .exact go _ _ hr h2
theorem dJ.AJ {ms:List Nat}{all:List Oper}{st:Nat}{o:Oper}{os:List Oper}{fs:List dP}{Q:Fr->ah->Prop}{c:Call}{f:Operand}{g:FuncId}{a b:List V}(hw:fJ all fr o=some true)(ho:o.op= .call c)(fV:c.callee= .value f)(hf:fr.ev E f= .fn (.func g) a b)(hi:E.imp g=true)(hp:iX E g (a++c.args.toList.map (fr.ev E)++b) (fr.d+1) Y (fun v aB=>dJ E ms all (st+1) os (fr.put o.dst v) aB (fs++[d9 E all fr o true]) Q))(eX:∀d,o.dst=some d->E.own g d=false:=by intros;rfl):dJ E ms all st (o::os) fr Y fs Q:=by
 obtain⟨m,v,aB,hm,n,fs',fr',Y',h1,h2,h3⟩:=hp;have hm':=(jM (qL n m)).2 _ _ _ _ _ hm;have h1':=Rz (jM (sK n m)) _ _ _ _ _ _ h1;refine⟨max n m,d9 E all fr o true::fs',fr',Y',?_,uV,h3⟩;have:jL E (bI E (max n m)) fr.d Y (.fn (.func g) a b) (c.args.toList.map (fr.ev E))=some (v,aB):=by unfold jL;simp only[hi,if_true];exact hm'
 simp only[mR,hw,Option.bind_some,if_true,opC,ho,fV,zx hf eX,dG,if_false,hf,this,Option.map_some,h1']
end
def ah.bump (Y:ah)(k:Nat):ah:={Y with next:=Y.next+k}
section
variable {E:Env}{fr:Fr}{Y:ah}
theorem aF.region {id:Nat}{ops:Array Oper}{Q:Ex->Fr->ah->Prop}(h:ay E ops.toList Y.next ops.toList fr (Y.bump ops.toList.length) (fun fr Y=>Q .normal fr Y)):aF E (.region id ops false) fr Y Q:=by obtain⟨n,fr',Y',h1,h2⟩:=h;exact⟨n,.normal,fr',Y',by simp only[eu,dG,if_false];rw[show opsE E (bI E n) ops.toList Y.next ops.toList fr {Y with next:=Y.next+ops.toList.length}=some (fr',Y') from h1];rfl,h2⟩
theorem aF.draw {id:Nat}{ops:Array Oper}{Q:Ex->Fr->ah->Prop}(he:qx ops.toList=true)(h:dJ E (oo ops.toList) ops.toList Y.next ops.toList fr (Y.bump ops.toList.length) [] (fun fr Y=>Q .normal fr Y)):aF E (.region id ops true) fr Y Q:=by
 obtain⟨n,fs,fr',Y',h1,h2,h3⟩:=h;refine⟨n,.normal,fr',Y',?_,h3⟩;simp only[eu,if_true];rw[show mR E (bI E n) ops.toList Y.next ops.toList fr {Y with next:=Y.next+ops.toList.length}=some (fs,fr',Y') from h1];simp only[Option.bind_some,he,Bool.true_and];rw[if_pos uV]
def dh (E:Env)(b:Code)(Q:Ex->Fr->ah->Prop)(e:Ex)(fr:Fr)(Y:ah):Prop:=match e with
 |.normal=>aF E b fr Y Q|e=>Q e fr Y
theorem aF.seq {a b:Code}{Q:Ex->Fr->ah->Prop}(h:aF E a fr Y (dh E b Q)):aF E (.seq a b) fr Y Q:=by
 obtain⟨n,e,bJ,aB,h1,h2⟩:=h;cases e with
 |normal=>obtain⟨m,e,fr',Y',h3,h4⟩:=h2;refine⟨max n m,e,fr',Y',?_,h4⟩;simp only[eu,zw (jM (sK n m)) _ _ _ _ h1,Option.bind_some,zw (jM (qL n m)) _ _ _ _ h3]
 |exit i=>exact⟨n,.exit i,bJ,aB,Qu,h2⟩|ret=>exact⟨n,.ret,bJ,aB,Qu,h2⟩
theorem aF.skip {Q:Ex->Fr->ah->Prop}(h:Q .normal fr Y):aF E .skip fr Y Q:=⟨0,.normal,fr,Y,rfl,h⟩
theorem aF.ret {Q:Ex->Fr->ah->Prop}(h:Q .ret fr Y):aF E .ret fr Y Q:=⟨0,.ret,fr,Y,rfl,h⟩
theorem aF.exit {i:Nat}{Q:Ex->Fr->ah->Prop}(h:Q (.exit i) fr Y):aF E (.exit i) fr Y Q:=⟨0,.exit i,fr,Y,rfl,h⟩
theorem aF.cond {c:Operand}{a b:Code}{t:Bool}{Q:Ex->Fr->ah->Prop}(hc:fr.ev E c= .bool t)(ht:t=true->aF E a fr Y Q)(hf:t=false->aF E b fr Y Q):aF E (.cond c a b) fr Y Q:=by
 cases t with
 |true=>obtain⟨n,e,fr',Y',h1,h2⟩:=ht rfl;exact⟨n,e,fr',Y',by simp only[eu,hc,yg,Option.bind_some,if_true,h1],h2⟩
 |false=>obtain⟨n,e,fr',Y',h1,h2⟩:=hf rfl;exact⟨n,e,fr',Y',by simp only[eu,hc,yg,Option.bind_some,dG,if_false,h1],h2⟩
def Xd (id:Nat)(Q:Ex->Fr->ah->Prop)(e:Ex)(fr:Fr)(Y:ah):Prop:=match e with
 |.exit i=>if i=id then Q .normal fr Y else Q (.exit i) fr Y|e=>Q e fr Y
theorem aF.block {id:Nat}{c:Code}{Q:Ex->Fr->ah->Prop}(h:aF E c fr Y (Xd id Q)):aF E (.block id c) fr Y Q:=by
 obtain⟨n,e,fr',Y',h1,h2⟩:=h;cases e with
 |normal=>exact⟨n,.normal,fr',Y',by simp only[eu,h1,Option.map_some],h2⟩|ret=>exact⟨n,.ret,fr',Y',by simp only[eu,h1,Option.map_some],h2⟩|exit i=>
  simp only[Xd] at h2;split at h2
  .rename_i hi;exact⟨n,.normal,fr',Y',by simp only[eu,h1,Option.map_some,if_pos hi],h2⟩
  .rename_i hi;exact⟨n,.exit i,fr',Y',by simp only[eu,h1,Option.map_some,if_neg hi],h2⟩
theorem aF.scope {c:Code}{Q:Ex->Fr->ah->Prop}(h:aF E c fr Y Q):aF E (.scope c) fr Y Q:=by obtain⟨n,e,fr',Y',h1,h2⟩:=h;exact⟨n,e,fr',Y',by simp only[eu,h1],h2⟩
theorem aF.label {l:Nat}{Q:Ex->Fr->ah->Prop}(h:Q .normal fr Y):aF E (.label l) fr Y Q:=⟨0,.normal,fr,Y,by simp only[eu],h⟩
def asf (E:Env)(c:Code)(Q:Ex->Fr->ah->Prop)(e:Ex)(fr:Fr)(Y:ah):Prop:=match e with
 |.normal=>aF E (.loop c) fr Y Q|e=>Q e fr Y
theorem aF.loop {c:Code}{Q:Ex->Fr->ah->Prop}(h:aF E c fr Y (asf E c Q)):aF E (.loop c) fr Y Q:=by
 obtain⟨n,e,bJ,aB,h1,h2⟩:=h;cases e with
 |normal=>obtain⟨m,e,fr',Y',h3,h4⟩:=h2;refine⟨max n m+1,e,fr',Y',?_,h4⟩;simp only[eu,zw (jM (show n<=max n m+1 by omega)) _ _ _ _ h1,Option.bind_some];exact zw (jM (qL n m)) _ _ _ _ h3
 |exit i=>exact⟨n,.exit i,bJ,aB,Qu,h2⟩|ret=>exact⟨n,.ret,bJ,aB,Qu,h2⟩
def oN (E:Env)(rs:List ResultVar)(R:V->ah->Prop)(e:Ex)(fr:Fr)(Y:ah):Prop:=match e with
 |.exit _=>False|_=>∃vs,rs.mapM (jC E fr Y)=some vs/\R (match vs with| [v]=>v|vs=>.bV vs) Y
theorem iX.of {f:FuncId}{args:List V}{d:Nat}{fn:Func}{c:Code}{R:V->ah->Prop}(hf:E.P.funcs[f]? =some fn)(hb:fn.body=some c)(hok:(decide (args.length<=fn.ntmps)&& iI fn.ntmps c)=true)(h:aF E c {d:=d,aj:=E.aj f,tm:=fun i=>args.getD i aP} Y (oN E fn.results.toList R)):iX E f args d Y R:=by
 obtain⟨n,e,fr',Y',h1,h2⟩:=h;have hok':args.length<=fn.ntmps/\iI fn.ntmps c=true:=by simpa using hok
 have key:∀vs,fn.results.toList.mapM (jC E fr' Y')=some vs->(e= .normal\/e= .ret)->(bI E (n+2)).call f args d Y=some ((match vs with| [v]=>v|vs=>.bV vs),Y'):=by intro vs hvs he;show qP E (bI E (n+1)) f args d Y=_;have h3:(bI E (n+1)).code c {d:=d,aj:=E.aj f,tm:=fun i=>args.getD i aP} Y=some (e,fr',Y'):=h1;simp only[qP,hf,hb,Option.bind_some,if_pos hok',h3];rcases he with rfl|rfl<;>simp only[hvs,Option.map_some]<;>rcases vs with _| ⟨x,_| ⟨y,l⟩⟩<;>rfl
 cases e with
 |normal=>obtain⟨vs,h3,h4⟩:=h2;exact⟨n+2,_,Y',key vs h3 (.inl rfl),h4⟩
 |ret=>obtain⟨vs,h3,h4⟩:=h2;exact⟨n+2,_,Y',key vs h3 (.inr rfl),h4⟩
 |exit i=>exact h2.elim
theorem Pure.of {f:FuncId}{args:List V}{v:V}{fn:Func}{c:Code}(hs:E.mP f=none)(hf:E.P.funcs[f]? =some fn)(hb:fn.body=some c)(hok:(decide (args.length<=fn.ntmps)&& iI fn.ntmps c)=true)(h:aF E c {d:=1,aj:=E.aj f,tm:=fun i=>args.getD i aP} ah.init (oN E fn.results.toList (fun v0 Y=>bq 20 Y v0=some v))):Pure E f args v:=by
 obtain⟨n,v0,Y',h1,h2⟩:=iX.of hf hb hok h;exact⟨n,by simp only[mQ,hs,h1,Option.bind_some,h2]⟩
theorem Cq (fr:Fr)(d:Nat)(v:V):fr.put (some d) v=fr.set d v:=rfl
theorem RA (fr:Fr)(v:V):fr.put none v=fr:=rfl
theorem ahE (fr:Fr)(d:Nat)(v:V):(fr.set d v).tm d=v:=by simp[Fr.set,upd]
theorem Ms (fr:Fr){d t:Nat}(v:V)(h:(t==d)=false):(fr.set d v).tm t=fr.tm t:=by
 have h':¬t=d:=ze
 simp[Fr.set,upd,h']
theorem EO (fr:Fr)(d:Nat)(v:V):(fr.set d v).d=fr.d:=rfl
theorem asg (fr:Fr)(d:Nat)(v:V):(fr.set d v).aj=fr.aj:=rfl
theorem H6 (fr:Fr)(t:Nat):fr.ev E (.tmp t)=fr.tm t:=rfl
theorem ahF (fr:Fr)(v:Value):fr.ev E (.const v)=(ofValue v).getD (.raw v):=rfl
theorem ahG (fr:Fr)(f:FuncId):fr.ev E (.func f)= .fn (.func f) [] []:=rfl
theorem ash (Y:ah)(k:Nat):(Y.bump k).next=Y.next+k:=rfl
theorem asi (Y:ah)(l:aQ.Loc)(s:Nat)(o:kH):(Y.setObj l s o).next=Y.next:=rfl
theorem asj (Y:ah)(s n:Nat):(Y.eB s n).next=Y.next:=rfl
theorem Mt (Y:ah)(s n:Nat):(Y.eB s n).top s=n:=by simp[ah.eB,upd]
theorem RB (Y:ah){s t:Nat}(n:Nat)(h:t≠s):(Y.eB s n).top t=Y.top t:=by simp[ah.eB,upd,h]
theorem asl (Y:ah)(k:Nat):(Y.bump k).top=Y.top:=rfl
theorem asn (Y:ah)(l:aQ.Loc)(s:Nat)(o:kH):(Y.setObj l s o).top=Y.top:=rfl
theorem ahH {l l':aQ.Loc}(h:rP l l'=false):¬l=l':=by rintro rfl;simp[rP] at h
theorem Xe (a b c d:Nat):rP (a,b) (c,d)=(b==d&& a==c):=rfl
theorem sP (Y:ah)(l:aQ.Loc)(s:Nat)(cs:List V):(Y.setObj l s (.cells cs)).dQ l s=some cs:=by simp[ah.setObj,ah.dQ,upd]
theorem EP (Y:ah){l l':aQ.Loc}(s s':Nat)(o:kH)(h:rP l l'=false):(Y.setObj l' s' o).dQ l s=Y.dQ l s:=by have h':=ahH h;simp[ah.setObj,ah.dQ,upd,h']
theorem Mv (Y:ah)(k:Nat)(l:aQ.Loc)(s:Nat):(Y.bump k).dQ l s=Y.dQ l s:=rfl
theorem aso (Y:ah)(t n:Nat)(l:aQ.Loc)(s:Nat):(Y.eB t n).dQ l s=Y.dQ l s:=rfl
theorem map_eq (Y:ah)(l:aQ.Loc)(s:Nat)(ks vs:List V):(Y.setObj l s (.map ks vs)).lD l s=some (ks,vs):=by simp[ah.setObj,ah.lD,upd]
theorem ahI (Y:ah){l l':aQ.Loc}(s s':Nat)(o:kH)(h:rP l l'=false):(Y.setObj l' s' o).lD l s=Y.lD l s:=by have h':=ahH h;simp[ah.setObj,ah.lD,upd,h']
theorem asq (Y:ah)(k:Nat)(l:aQ.Loc)(s:Nat):(Y.bump k).lD l s=Y.lD l s:=rfl
theorem asr (Y:ah)(t n:Nat)(l:aQ.Loc)(s:Nat):(Y.eB t n).lD l s=Y.lD l s:=rfl
theorem rV {a b c d:Nat}(h:b≠d):((a,b):aQ.Loc)≠(c,d):=fun e=>h (by cases e;rfl)
end
def Is {U:Type}(a b:U):Prop:=a=b
theorem Is.rfl {U:Type}{a:U}:Is a a:=Eq.refl a
def iv (n:Int):V:=.int .i64 n
def lv {U:Type}(f:U->V)(l:List U):V:=.ak .sh (l.map f)
theorem ahJ {U:Type}{f:U->V}(h:∀x,aR (f x)=true):∀l:List U,bY (l.map f)=true
 | []=>by simp[bY]|a::l=>by simp[bY,h a,ahJ h l]
theorem Mw {U:Type}{f:U->V}(h:∀x,aR (f x)=true)(l:List U):aR (.ak .sh (l.map f))=true:=by simp only[aR];exact ahJ h l
theorem lV {U:Type}{f:U->V}(h:∀x,aR (f x)=true)(l:List U):aR (lv f l)=true:=Mw h l
theorem asu (n:Int):aR (iv n)=true:=by simp[iv,aR]
theorem nI (l:List (List UInt8)):aR (lv V.str l)=true:=lV (fun _=>tV) l
theorem nJ (l:List Int):aR (lv iv l)=true:=lV asu l
theorem nK (k:IntKind)(l:List Int):aR (lv (V.int k) l)=true:=lV (fun _=>tV) l
theorem nL (l:List Bool):aR (lv V.bool l)=true:=lV (fun _=>tV) l
attribute [go_sem] nI nJ nK nL
def aG {U:Type}(l:List U)(i:Int):Option U:=if 0<=i/\i<l.length then l[i.toNat]? else none
def wR (P:Program)(t:TypeId):Bool:=match P.underlying t with
 |some (.slice _)=>true|_=>false
def Xf (P:Program)(t:TypeId):Bool:=match P.underlying t with
 |some .string=>true|_=>false
section
variable {E:Env}{fr:Fr}{Y:ah}
def Cr (Q:Ex->Fr->ah->Prop)(fr:Fr)(Y:ah):Prop:=Q .normal fr Y
theorem Cr.i {Q:Ex->Fr->ah->Prop}(h:Q .normal fr Y):Cr Q fr Y:=h
theorem dh.n {b:Code}{Q:Ex->Fr->ah->Prop}(h:aF E b fr Y Q):dh E b Q .normal fr Y:=h
theorem dh.r {b:Code}{Q:Ex->Fr->ah->Prop}(h:Q .ret fr Y):dh E b Q .ret fr Y:=h
theorem aF.ahK {id:Nat}{l:List Oper}{Q:Ex->Fr->ah->Prop}(h:∀k,dJ E (oo l) l Y.next l fr (Y.bump k) [] (Cr Q))(he:qx l=true:=by rfl):aF E (.region id l.toArray true) fr Y Q:=aF.draw (ops:=l.toArray) he (h _)
theorem aF.uw {c:Operand}{a b:Code}{Q:Ex->Fr->ah->Prop}(hc:Is (fr.ev E c) (.bool true))(h:aF E a fr Y Q):aF E (.cond c a b) fr Y Q:=aF.cond hc (fun _=>h) (fun h=>cZ)
theorem aF.vG {c:Operand}{a b:Code}{Q:Ex->Fr->ah->Prop}(hc:Is (fr.ev E c) (.bool false))(h:aF E b fr Y Q):aF E (.cond c a b) fr Y Q:=aF.cond hc (fun h=>cZ) (fun _=>h)
theorem ay.o1 {all:List Oper}{st:Nat}{d:Tmp}{op:Op}{ty:TypeId}{pos:String}{cu:Array Edge}{gd:Option (Nat×Bool)}{os:List Oper}{v:V}{aB:ah}{Q:Fr->ah->Prop}(hw:Is (fJ all fr ⟨some d,op,ty,pos,cu,gd⟩) (some true))(hop:∀S,Is (opC E S fr Y st ⟨some d,op,ty,pos,cu,gd⟩) (some (v,fr,aB)))(h:ay E all (st+1) os (fr.set d v) aB Q):ay E all st (⟨some d,op,ty,pos,cu,gd⟩::os) fr Y Q:=ay.op hw hop h
theorem ay.a1 {all:List Oper}{st:Nat}{d:Tmp}{op:Op}{ty:TypeId}{pos:String}{cu:Array Edge}{gd:Option (Nat×Bool)}{os:List Oper}{v:V}{aB:ah}{Q:Fr->ah->Prop}(h:ay E all (st+1) os (fr.set d v) aB Q)(hw:Is (fJ all fr ⟨some d,op,ty,pos,cu,gd⟩) (some true):=by rfl)(hop:∀S,Is (opC E S fr Y st ⟨some d,op,ty,pos,cu,gd⟩) (some (v,fr,aB)):=by intro S;simp only[go_sem,Nat.reduceBEq,Nat.reduceAdd, *];with_reducible exact Is.rfl):ay E all st (⟨some d,op,ty,pos,cu,gd⟩::os) fr Y Q:=ay.o1 hw hop h
theorem ay.o0 {all:List Oper}{st:Nat}{op:Op}{ty:TypeId}{pos:String}{cu:Array Edge}{gd:Option (Nat×Bool)}{os:List Oper}{v:V}{aB:ah}{Q:Fr->ah->Prop}(hw:Is (fJ all fr ⟨none,op,ty,pos,cu,gd⟩) (some true))(hop:∀S,Is (opC E S fr Y st ⟨none,op,ty,pos,cu,gd⟩) (some (v,fr,aB)))(h:ay E all (st+1) os fr aB Q):ay E all st (⟨none,op,ty,pos,cu,gd⟩::os) fr Y Q:=ay.op hw hop h
theorem ay.s1 {all:List Oper}{st:Nat}{d:Tmp}{op:Op}{ty:TypeId}{pos:String}{cu:Array Edge}{gd:Option (Nat×Bool)}{os:List Oper}{Q:Fr->ah->Prop}(hw:Is (fJ all fr ⟨some d,op,ty,pos,cu,gd⟩) (some false))(h:ay E all (st+1) os (fr.set d aP) Y Q):ay E all st (⟨some d,op,ty,pos,cu,gd⟩::os) fr Y Q:=ay.skip hw h
theorem dJ.o1 {ms:List Nat}{all:List Oper}{st:Nat}{d:Tmp}{op:Op}{ty:TypeId}{pos:String}{cu:Array Edge}{gd:Option (Nat×Bool)}{os:List Oper}{v:V}{aB:ah}{fs:List dP}{f:dP}{Q:Fr->ah->Prop}(hw:Is (fJ all fr ⟨some d,op,ty,pos,cu,gd⟩) (some true))(hop:∀S,Is (opC E S fr Y st ⟨some d,op,ty,pos,cu,gd⟩) (some (v,fr,aB)))(hf:Is (d9 E all fr ⟨some d,op,ty,pos,cu,gd⟩ true) f)(h:dJ E ms all (st+1) os (fr.set d v) aB (fs++[f]) Q):dJ E ms all st (⟨some d,op,ty,pos,cu,gd⟩::os) fr Y fs Q:=
 dJ.op hw hop (by rw[hf];exact h)
theorem dJ.o0 {ms:List Nat}{all:List Oper}{st:Nat}{op:Op}{ty:TypeId}{pos:String}{cu:Array Edge}{gd:Option (Nat×Bool)}{os:List Oper}{v:V}{aB:ah}{fs:List dP}{f:dP}{Q:Fr->ah->Prop}(hw:Is (fJ all fr ⟨none,op,ty,pos,cu,gd⟩) (some true))(hop:∀S,Is (opC E S fr Y st ⟨none,op,ty,pos,cu,gd⟩) (some (v,fr,aB)))(hf:Is (d9 E all fr ⟨none,op,ty,pos,cu,gd⟩ true) f)(h:dJ E ms all (st+1) os fr aB (fs++[f]) Q):dJ E ms all st (⟨none,op,ty,pos,cu,gd⟩::os) fr Y fs Q:=
 dJ.op hw hop (by rw[hf];exact h)
theorem ay.RD {all:List Oper}{st:Nat}{d:Option Tmp}{f:Operand}{args:Array Operand}{tys:Array TypeId}{ty:TypeId}{pos:String}{cu:Array Edge}{gd:Option (Nat×Bool)}{os:List Oper}{Q:Fr->ah->Prop}{g:FuncId}{a b dN:List V}{v:V}(hp:Pure E g dN v)(hf:Is (fr.ev E f) (.fn (.func g) a b))(has:Is ((a++args.toList.map (fr.ev E)++b).mapM (bq 20 Y)) (some dN))(hc:Is ((a++args.toList.map (fr.ev E)++b).all (fun x=>aR (er x))||flat v) true)(hw:Is (fJ all fr ⟨d,.call ⟨.value f,args,tys⟩,ty,pos,cu,gd⟩) (some true))(h:ay E all (st+1) os (fr.put d v) Y Q)(hi:E.imp g=false:=by rfl)(eX:∀d',d=some d'->E.own g d'=false:=by intros;rfl):ay E all st (⟨d,.call ⟨.value f,args,tys⟩,ty,pos,cu,gd⟩::os) fr Y Q:=
 ay.call hw rfl rfl hf hi has hp hc h eX
theorem dJ.RD {ms:List Nat}{fs:List dP}{ft:dP}{all:List Oper}{st:Nat}{d:Option Tmp}{f:Operand}{args:Array Operand}{tys:Array TypeId}{ty:TypeId}{pos:String}{cu:Array Edge}{gd:Option (Nat×Bool)}{os:List Oper}{Q:Fr->ah->Prop}{g:FuncId}{a b dN:List V}{v:V}(hp:Pure E g dN v)(hf:Is (fr.ev E f) (.fn (.func g) a b))(has:Is ((a++args.toList.map (fr.ev E)++b).mapM (bq 20 Y)) (some dN))(hc:Is ((a++args.toList.map (fr.ev E)++b).all (fun x=>aR (er x))||flat v) true)(hw:Is (fJ all fr ⟨d,.call ⟨.value f,args,tys⟩,ty,pos,cu,gd⟩) (some true))(hft:Is (d9 E all fr ⟨d,.call ⟨.value f,args,tys⟩,ty,pos,cu,gd⟩ true) ft)(h:dJ E ms all (st+1) os (fr.put d v) Y (fs++[ft]) Q)(hi:E.imp g=false:=by rfl)(eX:∀d',d=some d'->E.own g d'=false:=by intros;rfl):dJ E ms all st (⟨d,.call ⟨.value f,args,tys⟩,ty,pos,cu,gd⟩::os) fr Y fs Q:=
 dJ.call hw rfl rfl hf hi has hp hc (by rw[hft];exact h) eX
theorem oN.one {r:ResultVar}{e:Ex}{v0:V}{R:V->ah->Prop}(he:∀i,e≠ .exit i)(hv:Is (jC E fr Y r) (some v0))(hr:R v0 Y):oN E [r] R e fr Y:=by
 have h1:[r].mapM (jC E fr Y)=some [v0]:=by rw[iN,hv];rfl
 cases e with
 |exit i=>exact absurd rfl (he i)|normal=>exact⟨[v0],h1,hr⟩|ret=>exact⟨[v0],h1,hr⟩
theorem oN.bV {rs:List ResultVar}{e:Ex}{v1 v2:V}{vs:List V}{R:V->ah->Prop}(he:∀i,e≠ .exit i)(hv:Is (rs.mapM (jC E fr Y)) (some (v1::v2::vs)))(hr:R (.bV (v1::v2::vs)) Y):oN E rs R e fr Y:=by
 cases e with
 |exit i=>exact absurd rfl (he i)|normal=>exact⟨_,hv,hr⟩|ret=>exact⟨_,hv,hr⟩
theorem Pure.of' {f:FuncId}{args:List V}{v:V}{fn:Func}{c:Code}(rs:List ResultVar)(hf:E.P.funcs[f]? =some fn)(hb:fn.body=some c)(h:∀fr Y,fr.d=1->fr.aj=E.aj f->(∀i,fr.tm i=args.getD i aP)->aF E c fr Y (oN E rs (fun v0 Y=>bq 20 Y v0=some v)))(hrs:fn.results.toList=rs:=by rfl)(hok:(decide (args.length<=fn.ntmps)&& iI fn.ntmps c)=true:=by rfl)(hs:E.mP f=none:=by rfl):Pure E f args v:=
 Pure.of hs hf hb hok (by rw[hrs];exact h _ _ rfl rfl (fun _=>rfl))
theorem ou {n:Nat}{x:V}(h:aR x=true):bq (n+1) Y x=some x:=by unfold bq;simp only[h,if_true]
theorem Xg (n:Nat)(k:IntKind)(i:Int):bq (n+1) Y (.int k i)=some (.int k i):=ou tV
theorem Xh (n:Nat)(b:Bool):bq (n+1) Y (.bool b)=some (.bool b):=ou tV
theorem Xi (n:Nat)(s:List UInt8):bq (n+1) Y (.str s)=some (.str s):=ou tV
theorem yD {n:Nat}{U:Type}{f:U->V}(c:Cap)(l:List U)(h:∀x,aR (f x)=true):bq (n+2) Y (.ak c (l.map f))=some (lv f l):=by
 by_cases hp:aR (.ak c (l.map f))=true
 .rw[ou hp];cases c<;>simp only[aR,dG] at hp;rfl
 .unfold bq;simp only[hp,if_false,dG];have:(l.map f).mapM (bq (n+1) Y)=some (l.map f):=by
   induction l with
   |nil=>simp|cons a l ih=>simp[h a,ou,ih (by cases c<;>simp_all[aR,bY])]
  rw[this];rfl
theorem asv (k:IntKind)(i:Int):er (.int k i)= .int k i:=rfl
theorem asw (b:Bool):er (.bool b)= .bool b:=rfl
theorem asx (s:List UInt8):er (.str s)= .str s:=rfl
theorem asy {U:Type}(f:U->V)(l:List U):er (lv f l)=lv f l:=rfl
theorem asz (c:Cap)(l:List V):er (.ak c l)= .ak .sh l:=rfl
theorem asA (n:Int):iv n= .int .i64 n:=rfl
theorem Xj (k:IntKind)(i:Int):aR (.int k i)=true:=tV
theorem Xk (b:Bool):aR (.bool b)=true:=tV
theorem ahL (s:List UInt8):aR (.str s)=true:=tV
theorem Xl {P:Program}{U:Type}{t:TypeId}{c:Cap}{l:List U}{f:U->V}{k:IntKind}{i:Int}:
 qp P t (.ak c (l.map f)) (.int k i)=if wR P t then (lT P t).bind fun e=>(dM P e).bind fun sz=>(aG l i).bind fun x=>if (f x).cells.length=sz then some (.aW (f x).cells 0) else none else none:=by
 unfold qp wR lT;cases hu:P.underlying t with
 |none=>rfl|some u=>
  cases u<;>try rfl
  rename_i e;simp only[if_true,Option.bind_some];cases dM P e with
  |none=>rfl|some sz=>
   simp only[Option.bind_some,idx,pU,fH,aG];split
   .rename_i h;simp only[Option.bind_some,List.getElem?_map];cases l[i.toNat]? with
    |none=>rfl|some x=>rfl
   .rfl
theorem asB {P:Program}{t:TypeId}{v:V}(h1:jU P t=some false)(h2:dM P t=some 1):gT P t [v] 0=some v:=by simp[gT,h1,h2,rM]
theorem asC {t:TypeId}(c:Cap)(l:List V)(h:wR E.P t=true):vo E Y t (.ak c l)=some l.length:=by
 unfold wR at h;unfold vo;split at h
 .rename_i e he;rw[he]
 .simp at h
end
section
variable {E:Env}{S:iW}{fr:Fr}{Y:ah}{st:Nat}{d:Option Tmp}{ty:TypeId}{pos:String}{cu:Array Edge}{gd:Option (Nat×Bool)}
theorem asD (all:List Oper)(op:Op):fJ all fr ⟨d,op,ty,pos,cu,none⟩=some true:=rfl
def Xm (want:Bool):V->Option Bool
 |.bool b=>some (b==want)|.raw _=>none|_=>some false
theorem asE (w b:Bool):Xm w (.bool b)=some (b==w):=rfl
theorem asF (w:Bool):Xm w aP=some false:=rfl
theorem asG (all:List Oper)(op:Op)(j:Nat)(want:Bool):fJ all fr ⟨d,op,ty,pos,cu,some (j,want)⟩=match (all[j]?).bind (·.dst) with
 |some t=>Xm want (fr.tm t)|none=>some false:=by
 simp only[fJ];cases (all[j]?).bind (·.dst) with
 |none=>rfl|some t=>simp only;cases fr.tm t<;>rfl
theorem asH (cs:List V):V.cells (.agg cs)=cs:=rfl
theorem asI (k:IntKind)(n:Int):V.cells (.int k n)=[.int k n]:=rfl
theorem asJ (k:IntKind)(n:Int):fE (.int k n)=true:=rfl
theorem asK (b:Bool):V.cells (.bool b)=[.bool b]:=rfl
theorem asL (b:Bool):fE (.bool b)=true:=rfl
theorem asM (s:List UInt8):V.cells (.str s)=[.str s]:=rfl
theorem asN (s:List UInt8):fE (.str s)=true:=rfl
theorem asO (c:Cap)(l:List V):V.cells (.ak c l)=[.ak c l]:=rfl
theorem asP (c:Cap)(l:List V):fE (.ak c l)=true:=rfl
theorem asQ (l:aQ.Loc)(s o:Nat):V.cells (.ref l s o)=[.ref l s o]:=rfl
theorem asR (l:aQ.Loc)(s o:Nat):fE (.ref l s o)=true:=rfl
theorem asS (cs:List V)(o:Nat):V.cells (.aW cs o)=[.aW cs o]:=rfl
theorem asT (cs:List V)(o:Nat):fE (.aW cs o)=true:=rfl
theorem asU (f:Fn)(a b:List V):V.cells (.fn f a b)=[.fn f a b]:=rfl
theorem asV (f:Fn)(a b:List V):fE (.fn f a b)=true:=rfl
theorem asW {U:Type}(f:U->V)(l:List U):V.cells (lv f l)=[lv f l]:=rfl
theorem asX:dx []=true:=rfl
theorem ahM (x:V)(l:List V):dx (x::l)=(oneCell x&& dx l):=rfl
theorem asY (k:IntKind)(n:Int):oneCell (.int k n)=true:=rfl
theorem asZ (b:Bool):oneCell (.bool b)=true:=rfl
theorem as0 (s:List UInt8):oneCell (.str s)=true:=rfl
theorem as1 {U:Type}(f:U->V)(l:List U):oneCell (lv f l)=true:=rfl
theorem as2 (c:Cap)(l:List V):oneCell (.ak c l)=true:=rfl
theorem as3 (l:aQ.Loc)(s o:Nat):oneCell (.ref l s o)=true:=rfl
theorem as4 (cs:List V)(o:Nat):oneCell (.aW cs o)=true:=rfl
theorem as5 (cs:List V):fE (.agg cs)=true:=rfl
theorem as6 {U:Type}(f:U->V)(l:List U):fE (lv f l)=true:=rfl
theorem as7 (x:Operand)(h:yh E d=false):opC E S fr Y st ⟨d,.move x,ty,pos,cu,gd⟩=some (fr.ev E x,fr,Y):=by show Option.map _ (if yh E d=true then yj Y (fr.ev E x) else some (fr.ev E x,Y))=_;rw[if_neg (by rw[h];simp)];rfl
theorem as8 (x:Operand):opC E S fr Y st ⟨d,.assign x,ty,pos,cu,gd⟩=some (fr.ev E x,fr,Y):=rfl
theorem af5 (c a b:Operand)(h:fr.ev E c= .bool true):opC E S fr Y st ⟨d,.pick c a b,ty,pos,cu,gd⟩=some (fr.ev E a,fr,Y):=by simp only[opC,dK,h,yg,Option.map_some,if_true]
theorem af4 (c a b:Operand)(h:fr.ev E c= .bool false):opC E S fr Y st ⟨d,.pick c a b,ty,pos,cu,gd⟩=some (fr.ev E b,fr,Y):=by simp only[opC,dK,h,yg,Option.map_some,dG,if_false]
theorem ahN (op:BinOp)(t u:TypeId)(x y:Operand):opC E S fr Y st ⟨d,.binOp op t x y u,ty,pos,cu,gd⟩=(sN E.P op t (fr.ev E x) (fr.ev E y)).map fun v=>(v,fr,Y):=by simp only[opC,dK];cases sN E.P op t (fr.ev E x) (fr.ev E y)<;>rfl
theorem as9 (op:UnOp)(t:TypeId)(x:Operand):opC E S fr Y st ⟨d,.unOp op t x,ty,pos,cu,gd⟩=(EA op (fr.ev E x)).map fun v=>(v,fr,Y):=by simp only[opC,dK];cases EA op (fr.ev E x)<;>rfl
theorem ata (t:TypeId)(x:Operand)(f:Nat):opC E S fr Y st ⟨d,.fieldAddr t x f,ty,pos,cu,gd⟩=(x9 E.P t f).bind fun p=>match fr.ev E x with
 |.ref loc s off=>some (.ref loc s (off+p.1),fr,Y)|.aW cs off=>some (.aW cs (off+p.1),fr,Y)|_=>none:=by
 simp only[opC,dK];cases x9 E.P t f with
 |none=>rfl|some p=>obtain⟨o,u⟩:=p;simp only[Option.bind_some];cases fr.ev E x<;>rfl
theorem atb (t:TypeId)(x:Operand):opC E S fr Y st ⟨d,.load t x,ty,pos,cu,gd⟩=(match fr.ev E x with
 |.ref loc s off=>(Y.dQ loc s).bind fun cs=>(gT E.P t cs off).map fun v=>(v,fr,Y)
 |.aW cs off=>(gT E.P t cs off).map fun v=>(v,fr,Y)
 |_=>none):=by
 simp only[opC,dK];cases fr.ev E x with
 |ref loc s off=>
  simp only;cases Y.dQ loc s with
  |none=>rfl|some cs=>simp only[Option.bind_some];cases gT E.P t cs off<;>rfl
 |aW cs off=>simp only;cases gT E.P t cs off<;>rfl|_=>rfl
theorem atc (t:TypeId)(x:Operand)(i:Nat):opC E S fr Y st ⟨some i,.box t x,ty,pos,cu,gd⟩=if tZ E t (some i)=true then (if aR (er (fr.ev E x))=true/\fE (fr.ev E x)=true then some (.aW (er (fr.ev E x)).cells 0,fr,Y) else none) else if dx (fr.ev E x).cells/\fE (fr.ev E x) then some (.ref (fr.d,i) st 0,fr,Y.setObj (fr.d,i) st (.cells (fr.ev E x).cells)) else none:=by
 show Option.map _ (if tZ E t (some i)=true then _ else (some (fr.d,i)).bind _)=_;by_cases hz:tZ E t (some i)=true
 .simp only[hz,if_true];split<;>rfl
 .simp only[hz,dG,if_false,Option.bind_some];split<;>rfl
theorem atd (t:TypeId)(i:Nat):opC E S fr Y st ⟨some i,.alloc t,ty,pos,cu,gd⟩=(jc E.P t).bind fun z=>if dx z.cells then some (.ref (fr.d,i) st 0,fr,Y.setObj (fr.d,i) st (.cells z.cells)) else none:=by
 simp only[opC,dK,Option.map_some,Option.bind_some];cases jc E.P t with
 |none=>rfl|some z=>simp only[Option.bind_some];split<;>rfl
theorem ate (t:TypeId)(a x:Operand):opC E S fr Y st ⟨d,.store t a x,ty,pos,cu,gd⟩=(match fr.ev E a with
 |.ref loc s off=>(Y.dQ loc s).bind fun cs=>
  if some (fr.ev E x).cells.length=dM E.P t/\off+(fr.ev E x).cells.length<=cs.length/\dx (fr.ev E x).cells then some (aP,fr,Y.setObj loc s (.cells (gM cs off (fr.ev E x).cells))) else none
 |_=>none):=by
 simp only[opC,dK];cases fr.ev E a with
 |ref loc s off=>
  simp only;cases Y.dQ loc s with
  |none=>rfl|some cs=>simp only[Option.bind_some];split<;>rfl
 |_=>rfl
theorem atf (t:TypeId)(x i:Operand):opC E S fr Y st ⟨d,.indexAddr t x i,ty,pos,cu,gd⟩=(qp E.P t (fr.ev E x) (fr.ev E i)).map fun v=>(v,fr,Y):=by simp only[opC,dK];cases qp E.P t (fr.ev E x) (fr.ev E i)<;>rfl
theorem atg (x:Operand)(i:Nat):opC E S fr Y st ⟨d,.extract x i,ty,pos,cu,gd⟩=(match fr.ev E x with
 |.bV vs=>(vs[i]?).map fun v=>(v,fr,Y)
 |_=>none):=by
 simp only[opC,dK];cases fr.ev E x with
 |bV vs=>simp only;cases vs[i]? <;>rfl|_=>rfl
theorem ath (x:Operand)(t:TypeId):opC E S fr Y st ⟨d,.call ⟨.builtin .len, #[x], #[t]⟩,ty,pos,cu,gd⟩=(vo E Y t (fr.ev E x)).map fun n=>(.int .i64 (n:Nat),fr,Y):=by show (Option.map _ (((#[t]:Array TypeId)[0]?).bind fun t=>(vo E Y t (fr.ev E x)).map fun n=>(V.int .i64 (n:Nat),Y)))=_;rw[show (#[t]:Array TypeId)[0]? =some t from rfl,Option.bind_some];cases vo E Y t (fr.ev E x)<;>rfl
end
attribute [go_sem] dG sN nH Ca EA decide_true decide_false List.getElem?_cons_succ List.getElem?_cons_zero beq_true beq_false Bool.not_true Bool.not_false Xe Bool.false_and Bool.and_false Bool.true_and Bool.and_true asD asG asE asF as7 as8 af5 af4 ahN as9 ata atb atc atd ate atf atg ath H6 ahF ahG ahE Ms Cq RA EO asg ash asi asj sP EP Mv aso map_eq ahI asq asr rV Mt RB asl asn asA asB asC Xl fH Xg Xh Xi asv asw asx asy asz Xj Xk ahL Option.bind_some Option.map_some Option.getD_some yg ofValue lQ if_true if_false asH asI asK asM asW asO asQ asS asU asJ asL asN asP asR asT asV asX ahM asY asZ as0 as1 as2 as3 as4 as5 as6 and_self and_true true_and
def zy:Code->List Nat->Option Code
 |c,[]=>some c|.seq a b,i::l=>if i=0 then zy a l else zy b l|.cond _ a b,i::l=>if i=0 then zy a l else zy b l|.block _ a,_::l=>zy a l|.loop a,_::l=>zy a l|.scope a,_::l=>zy a l|.rangeFunc _ _ a b,i::l=>if i=0 then zy a l else zy b l|_,_=>none
def RF (b:Option Code)(l:List Nat):Option Code:=b.bind fun c=>zy c l
section
variable {E:Env}{fr:Fr}{Y:ah}
def RG (E:Env)(c:Code)(fr:Fr)(Y:ah)(Q:Ex->Fr->ah->Prop):Prop:=aF E (.loop c) fr Y Q
theorem aF.lp {c:Code}{Q:Ex->Fr->ah->Prop}(h:RG E c fr Y Q):aF E (.loop c) fr Y Q:=h
def Mx:Code->Nat
 |.region i _ _=>i|.seq a _=>Mx a|.loop a=>Mx a|.scope a=>Mx a|.block _ a=>Mx a|_=>0
theorem RG.at (k:Nat){c:Code}{Q:Ex->Fr->ah->Prop}(_h:Is (Mx c) k)(h:RG E c fr Y Q):RG E c fr Y Q:=h
theorem ahO {n:Nat}(cs:List V):bq (n+2) Y (.agg cs)=(cs.mapM (bq (n+1) Y)).map .agg:=by
 by_cases hp:aR (.agg cs)=true
 .rw[ou hp];have:∀cs:List V,bY cs=true->cs.mapM (bq (n+1) Y)=some cs:=by
   intro cs;induction cs with
   |nil=>intro _;rfl|cons a l ih=>intro h;simp only[bY,aZ] at h;rw[iN,ou h.1,ih h.2];rfl
  rw[this cs BN];rfl
 .conv=>lhs;unfold bq
  simp only[hp,if_false,dG]
theorem RH {n:Nat}(cs:List V):bq (n+2) Y (.bV cs)=(cs.mapM (bq (n+1) Y)).map .bV:=by
 by_cases hp:aR (.bV cs)=true
 .rw[ou hp];have:∀cs:List V,bY cs=true->cs.mapM (bq (n+1) Y)=some cs:=by
   intro cs;induction cs with
   |nil=>intro _;rfl|cons a l ih=>intro h;simp only[bY,aZ] at h;rw[iN,ou h.1,ih h.2];rfl
  rw[this cs BN];rfl
 .conv=>lhs;unfold bq
  simp only[hp,if_false,dG]
theorem aF.ahP {id:Nat}{l:List Oper}{Q:Ex->Fr->ah->Prop}(h:∀k,k=l.length->dJ E (oo l) l Y.next l fr (Y.bump k) [] (Cr Q))(he:qx l=true:=by rfl):aF E (.region id l.toArray true) fr Y Q:=aF.draw (ops:=l.toArray) he (h _ rfl)
def RI (sz:Nat)(Y:ah)(c:Cap)(n:Nat):Prop:=c= .nil\/∃s,c= .own sz s/\Y.top s=n/\s<Y.next
theorem ati {s n:Nat}(h:s<n):(s==n)=false:=dw
theorem atj {s n:Nat}(h:s<n):(n==s)=false:=dw
end
def Ct (P:Program)(Y:ah)(st:Nat)(t u:TypeId)(x y:V):Option (V×ah):=
 match P.underlying u with
 |some (.int _)=>kI P false true Y st none t x y|some (.slice _)|some .string=>kI P false false Y st none t x y|_=>none
theorem atl {P:Program}{z:Bool}{Y:ah}{st:Nat}{loc:Option Loc}{t:TypeId}{c:Cap}{l:List V}{y:V}:kI P false z Y st loc t (.ak c l) y=kI P false z Y st none t (.ak c l) y:=by
 unfold kI;cases lT P t with
 |none=>rfl|some e=>cases c<;>rfl
section
variable {E:Env}{S:iW}{fr:Fr}{Y:ah}{st:Nat}{d:Option Tmp}{ty:TypeId}{pos:String}{cu:Array Edge}{gd:Option (Nat×Bool)}
theorem Xn {t u:TypeId}{x y:Operand}{c:Cap}{l:List V}(ho:fr.aj=false)(hx:fr.ev E x= .ak c l):opC E S fr Y st ⟨d,.call ⟨.builtin .append, #[x,y], #[t,u]⟩,ty,pos,cu,gd⟩=(Ct E.P Y st t u (.ak c l) (fr.ev E y)).map fun p=>(p.1,fr,p.2):=by
 show Option.map _ ((((#[t,u]:Array TypeId)[0]?).bind fun t=>(((#[t,u]:Array TypeId)[1]?).bind E.P.underlying).bind fun u=>match u with
  |.int _=>kI E.P fr.aj true Y st (d.map fun t=>(fr.d,E.cn t)) t (fr.ev E x) (fr.ev E y)
  |.slice _|.string=>kI E.P fr.aj false Y st (d.map fun t=>(fr.d,E.cn t)) t (fr.ev E x) (fr.ev E y)
  |_=>none))=_
 show Option.map _ ((E.P.underlying u).bind _)=_;rw[ho,hx];unfold Ct;cases E.P.underlying u with
 |none=>rfl|some u=>
  cases u<;>try rfl
  all_goals (simp only[Option.bind_some];rw[atl];first|rfl| (generalize kI _ _ _ _ _ _ _ _ _=o;cases o<;>rfl))
end
def ER (P:Program)(t u:TypeId)(sz gI:Nat)(z:V):Prop:=∃e ag,lT P t=some e/\dM P e=some sz/\u7 P e=some gI/\jU P e=some ag/\jc P e=some z/\z.cells.length=sz/\0<sz/\(ag||sz==1)=true/\wR P u=true
theorem ER.mk {P:Program}{t u:TypeId}{sz gI:Nat}{z:V}(e:TypeId)(ag:Bool)(h1:lT P t=some e)(h2:dM P e=some sz)(h3:u7 P e=some gI)(h4:jU P e=some ag)(h5:jc P e=some z)(h6:z.cells.length=sz)(h7:0<sz)(h8:(ag||sz==1)=true)(h9:wR P u=true):ER P t u sz gI z:=⟨e,ag,h1,h2,h3,h4,h5,h6,h7,h8,h9⟩
def wS (sz:Nat)(l:List V):Bool:=l.all fun v=>v.cells.length==sz&& dx v.cells
theorem atm {U:Type}{f:U->V}{sz:Nat}(h:∀x,(f x).cells.length=sz/\dx (f x).cells=true)(l:List U):wS sz (l.map f)=true:=by simp[wS,h]
theorem Cu {sz:Nat}{l:List V}(h:wS sz l=true):oK sz l=true:=by
 cases l with
 |nil=>rfl|cons a l=>simp[wS] at h;simp[oK,h.1.1]
theorem atn {sz:Nat}{l:List V}(h:wS sz l=true):l.all (fun v=>dx v.cells)=true:=by simp[wS] at h;simpa using fun x hx=>(h x hx).2
theorem ahQ {P:Program}{Y:ah}{st t u sz gI:Nat}{z:V}{x:V}{c2:Cap}{ys:List V}(ha:ER P t u sz gI z)(hy:wS sz ys=true):
 Ct P Y st t u x (.ak c2 ys)=match x with
 |.ak c l=>if bZ (l.length+ys.length) gI=true/\oK sz l=true then match c with
  |.own n s=>if n=sz/\Y.top s=l.length then some (.ak (.own n s) (l++ys),Y.eB s (l.length+ys.length)) else none|.nil|.full=>some (.ak (.own sz st) (l++ys),Y.eB st (l.length+ys.length))|_=>none else none
 |_=>Ct P Y st t u x (.ak c2 ys):=by
 obtain⟨e,ag,h1,h2,h3,h4,h5,h6,h7,h8,h9⟩:=ha;cases x<;>try rfl
 rename_i c l;unfold wR at h9;split at h9
 .rename_i e' he;simp only[Ct,he,kI,h1,h2,h3,h4,h5,Option.bind_some,zk,true_and,if_pos (show z.cells.length=sz/\0<sz/\(ag||sz==1)=true from ⟨h6,h7,h8⟩),nQ,Cu hy,if_true,atn hy];cases c<;>rfl
 .simp at h9
theorem ato {P:Program}{Y:ah}{st t u s sz gI:Nat}{z:V}{l:List V}{c2:Cap}{ys:List V}(ha:ER P t u sz gI z)(hy:wS sz ys=true)(hl:wS sz l=true)(hr:bZ (l.length+ys.length) gI=true)(ht:Y.top s=l.length):Ct P Y st t u (.ak (.own sz s) l) (.ak c2 ys)=some (.ak (.own sz s) (l++ys),Y.eB s (l.length+ys.length)):=by
 rw[ahQ ha hy];simp only[hr,Cu hl,and_self,if_true,ht]
theorem atp {P:Program}{Y:ah}{st t u sz gI:Nat}{z:V}{l:List V}{c2:Cap}{ys:List V}(ha:ER P t u sz gI z)(hy:wS sz ys=true)(hl:wS sz l=true)(hr:bZ (l.length+ys.length) gI=true):Ct P Y st t u (.ak .nil l) (.ak c2 ys)=some (.ak (.own sz st) (l++ys),Y.eB st (l.length+ys.length)):=by
 rw[ahQ ha hy];simp only[hr,Cu hl,and_self,if_true]
def RJ (E:Env)(t:TypeId)(ps:List (Nat×V)):Option (List V):=(GN E t).bind fun pl=>(jc E.P t).bind fun z=>sM pl z.cells ps
section
variable {E:Env}{S:iW}{fr:Fr}{Y:ah}{st:Nat}{d:Option Tmp}{ty:TypeId}{pos:String}{cu:Array Edge}{gd:Option (Nat×Bool)}
theorem atq (t:TypeId)(l:List (Nat×Operand)):opC E S fr Y st ⟨d,.build t l.toArray,ty,pos,cu,gd⟩=(RJ E t (l.map fun p=>(p.1,fr.ev E p.2))).map fun cs=>(.agg cs,fr,Y):=by
 simp only[opC,dK,RJ];cases GN E t with
 |none=>rfl|some pl=>
  simp only[Option.bind_some];cases jc E.P t with
  |none=>rfl|some z=>simp only[Option.bind_some];cases sM pl z.cells (l.map fun p=>(p.1,fr.ev E p.2))<;>rfl
theorem atr (t:TypeId)(n:Nat)(l:List (Nat×Operand))(h:zm E d=false):opC E S fr Y st ⟨d,.buildSlice t n l.toArray,ty,pos,cu,gd⟩=(Cb E t n (l.map fun p=>(p.1,fr.ev E p.2))).map fun v=>(v,fr,Y):=by unfold opC;dsimp only;unfold dK;dsimp only;rw[h,if_neg aD];cases Cb E t n (l.map fun p=>(p.1,fr.ev E p.2))<;>rfl
end
section
variable {E:Env}{S:iW}{fr:Fr}{Y:ah}{st:Nat}{d:Option Tmp}{ty:TypeId}{pos:String}{cu:Array Edge}{gd:Option (Nat×Bool)}
theorem ahR {P:Program}{t:TypeId}{s:List UInt8}{k:IntKind}{i:Int}(h:Xf P t=true):EC P t (.str s) (.int k i)=(aG s i).map fun b=>.int .u8 (b.toNat:Nat):=by
 unfold Xf at h;unfold EC;split at h
 .rename_i he;rw[he];simp only[idx,pU,Option.bind_some,aG];split
  .simp only[Option.bind_some];rfl
  .rfl
 .simp at h
def imax (a b:Int):Int:=if b>a then b else a
def wT (a b:Int):Int:=if b<a then b else a
end
theorem len1 (v:V):[v].length=1:=rfl
attribute [go_sem] ahR ati atj ahO RH atq atr iH List.map_nil len1 Xn yD implies_true eq_self
end aQ
end
