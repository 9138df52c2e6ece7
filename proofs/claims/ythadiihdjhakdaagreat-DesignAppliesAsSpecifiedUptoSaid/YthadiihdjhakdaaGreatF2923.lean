import Derived.Test.YthadiihdjhakdaaGreatF2922
set_option linter.all false
noncomputable section
section
open Go aY
namespace So
variable {α:Type}
theorem eB.mem {key:α->Int}{s t:List α}(h:eB key s t){a:α}(ha:a∈s):a∈t:=by have h1:a∈s.filter (fun x=>key x==key a):=tN.2 ⟨ha,aC⟩;rw[h (key a)] at h1;exact(tN.1 h1).1
theorem eB.refl {key:α->Int}(s:List α):eB key s s:=fun _=>rfl
theorem eB.app {key:α->Int}{s t s' t':List α}(h:eB key s t)(h':eB key s' t'):eB key (s++s') (t++t'):=fun k=>by rw[qc,qc,h k,h' k]
theorem eB.trans {key:α->Int}{s t u:List α}(h:eB key s t)(h':eB key t u):eB key s u:=fun k=>(h k).trans (h' k)
theorem eB.swap {key:α->Int}{s t:List α}(h:∀a∈s,∀b∈t,key a<key b):eB key (s++t) (t++s):=by
 intro k;rw[qc,qc];by_cases hs:s.filter (fun a=>key a==k)=[]
 ·rw[hs];simp
 ·have:t.filter (fun a=>key a==k)=[]:=by
   obtain⟨a,ha⟩:=List.exists_mem_of_ne_nil _ hs;rw[List.filter_eq_nil_iff];intro b hb hk;obtain⟨h1,h2⟩:=tN.1 ha;have:=h a h1 b hb;have e1:key a=k:=qN
   have e2:key b=k:=vP
   omega
  rw[this];simp
theorem fP.app {key:α->Int}{s t:List α}(h:fP key s)(h':fP key t)(hh:∀a∈s,∀b∈t,key a<=key b):fP key (s++t):=List.pairwise_append.2 ⟨h,h',hh⟩
section
variable {key:α->Int}{cmp:α×α->Option Int}(hc:QA key cmp){n:Nat}{pV:Nat->Int->Int->Int->List α->Nat->Int×Int->Option Int}(KV:acA cmp pV)
include hc KV
theorem azE {g:Nat}{A U V B:List α}{lo hi mid:Nat}(hmid:mid=(A.length+(A.length+U.length+V.length))/2)(hlo:A.length<=lo)(hhi:hi<=A.length+U.length)(hm1:hi<=mid)(hm2:mid<=lo+V.length)(hlh:lo<=hi)(hb:(A++(U++(V++B))).length<2^59)(hn:U.length+V.length<n):
 ∃s:Nat,pV g (A.length:Int) ((A.length+U.length:Nat):Int) ((A.length+U.length+V.length:Nat):Int) (A++(U++(V++B))) n ((lo:Int),(hi:Int))=some (s:Int)/\lo<=s/\s<=hi/\
  (lo<s->∃u v,U[s-1-A.length]? =some u/\V[mid-s]? =some v/\key u<=key v)/\(s<hi->∃u v,U[s-A.length]? =some u/\V[mid-1-s]? =some v/\key v<key u):=by
 simp only[bE] at hb;have azF:∀h,A.length<=h->h<A.length+U.length->(A++(U++(V++B)))[h]? =U[h-A.length]? :=fun h h1 h2=>Xk h1 h2;have gv:∀h,A.length+U.length<=h->h<A.length+U.length+V.length->(A++(U++(V++B)))[h]? =V[h-(A.length+U.length)]? :=fun h h1 h2=>by rw[<-jD,Xk Ey Ey,bE]
 obtain⟨r,e1,e2,e3,e4,e5⟩:=bsearch (L:=fun m p=>pV g (A.length:Int) ((A.length+U.length:Nat):Int) ((A.length+U.length+V.length:Nat):Int) (A++(U++(V++B))) m p) (fun c=>∃u v,U[c-A.length]? =some u/\V[mid-1-c]? =some v/\key u<=key v) lo hi (fun m i j hi' hj hh=>by
  obtain⟨u,hu⟩:=get_some (l:=U) (i:=(i+j)/2-A.length) ah;obtain⟨v,hv⟩:=get_some (l:=V) (i:=mid-1-(i+j)/2) ah;have hu':=(azF ((i+j)/2) ah ah).trans hu;have hv':(A++(U++(V++B)))[mid+(A.length+U.length)-1-(i+j)/2]? =some v:=by rw[gv _ ah ah,<-hv];congr 1;omega
  have azG:(i+j)/2< (A++(U++(V++B))).length:=p8
  have lv:mid+(A.length+U.length)-1-(i+j)/2< (A++(U++(V++B))).length:=p8
  obtain⟨r,hr,zU⟩:=hc v u;have pre:∀z,(bif !(decide (r< (0:Int))) then pV g (A.length:Int) ((A.length+U.length:Nat):Int) ((A.length+U.length+V.length:Nat):Int) (A++(U++(V++B))) m ((((i+j)/2+1:Nat):Int),(j:Int)) else pV g (A.length:Int) ((A.length+U.length:Nat):Int) ((A.length+U.length+V.length:Nat):Int) (A++(U++(V++B))) m ((i:Int),(((i+j)/2:Nat):Int)))=z->pV g (A.length:Int) ((A.length+U.length:Nat):Int) ((A.length+U.length+V.length:Nat):Int) (A++(U++(V++B))) (m+1) ((i:Int),(j:Int))=z:=fun z hz=>by
   rw[KV,QT (i:=i) (j:=j) ah,QT (i:=A.length) (j:=A.length+U.length+V.length) ah,<-hmid,
    show IntKind.wrap .i64 ((mid:Int)+((A.length+U.length:Nat):Int))=((mid+(A.length+U.length):Nat):Int) by rw[wr ah ah];omega,
    show IntKind.wrap .i64 (((mid+(A.length+U.length):Nat):Int)-(1:Int))=((mid+(A.length+U.length)-1:Nat):Int) by rw[wr ah ah];omega,
    show IntKind.wrap .i64 (((mid+(A.length+U.length)-1:Nat):Int)-(((i+j)/2:Nat):Int))=((mid+(A.length+U.length)-1-(i+j)/2:Nat):Int) by rw[wr ah ah];omega,
    show IntKind.wrap .i64 ((((i+j)/2:Nat):Int)+(1:Int))=(((i+j)/2+1:Nat):Int) by rw[wr ah ah];omega]
   exact mG (decide_eq_true ah) (iM rfl (iM (KT lv) (bd (Xj hv') (iM (KT azG) (bd (Xj hu') (bd hr hz))))))
  refine⟨fun hp=>pre _ (mG ?_ rfl),fun hp=>pre _ (kK ?_ rfl)⟩
  ·obtain⟨u',v',hu2,hv2,hk⟩:=hp
   rw[hu] at hu2;rw[hv] at hv2;cases hu2;cases hv2;rw[decide_eq_false (fun h=>by have:=zU.1 h;omega)];rfl
  ·rw[decide_eq_true (zU.2 (Int.not_le.1 fun h=>hp ⟨u,v,hu,hv,h⟩))];rfl)
  (fun m i=>by show pV g _ _ _ _ (m+1) _=_;rw[KV];exact kK aC rfl) _ lo hi n (RS _) hlh (RS _) rfl ah
 refine⟨r,e1,e2,e3,fun h=>?_,fun h=>?_⟩
 ·obtain⟨u,v,h1,h2,h3⟩:=e4 h
  exact⟨u,v,h1,by rw[<-h2];congr 1;omega,h3⟩
 ·obtain⟨u,hu⟩:=get_some (l:=U) (i:=r-A.length) ah
  obtain⟨v,hv⟩:=get_some (l:=V) (i:=mid-1-r) ah;exact⟨u,v,hu,hv,Int.not_le.1 fun hk=>e5 h ⟨u,v,hu,hv,hk⟩⟩
end
end So
end
section
open Go aY
namespace So
variable {α:Type}
theorem adg {p q:Prop}[Decidable p][Decidable q](hp:p)(hq:q):(bif decide p then decide q else false)=true:=by rw[decide_eq_true hp,decide_eq_true hq];rfl
theorem adh {p q:Prop}[Decidable p][Decidable q](h:¬(p/\q)):(bif decide p then decide q else false)=false:=by
 by_cases hp:p
 ·rw[decide_eq_true hp,decide_eq_false fun hq=>h ⟨hp,hq⟩];rfl
 ·rw[decide_eq_false hp];rfl
theorem vN {γ:Type}{c:Bool}{o:Option (PUnit×List α)}{d d1:List α}{K1:PUnit×List α->Option γ}{K2 r:Option γ}(h:(c=true/\o=some ((),d1))\/(c=false/\d=d1))(k1:K1 ((),d1)=r)(k2:d=d1->K2=r):(bif c then o.bind K1 else K2)=r:=by
 rcases h with ⟨rfl,rfl⟩| ⟨rfl,e⟩
 ·exact k1
 ·exact k2 e
section
variable {key:α->Int}{cmp:α×α->Option Int}(hc:QA key cmp){n:Nat}{L3:Nat->Int->List α->Nat->Int×Int->Option Int}{oo:Nat->Int->Nat->Int×List α->Option (PUnit×List α)}{rO:Nat->Int->List α->Nat->Int×Int->Option Int}{zM:Nat->Int->Nat->Int×List α->Option (PUnit×List α)}{pV:Nat->Int->Int->Int->List α->Nat->Int×Int->Option Int}{ro:Unit×Int×Int×Int×(Unit×Unit)->List α->Option (PUnit×List α)}{S:Nat->Unit×Int×Int×Int×(Unit×Unit)->List α->Option (PUnit×List α)}(h3:E3 cmp L3)(h9:acw oo)(KU:acz cmp rO)(h21:acy zM)(KV:acA cmp pV)(hro:∀A U V B:List α,0<U.length->0<V.length->(A++(U++V)++B).length<2^61->U.length+V.length<n->ro ((),(A.length:Int),((A.length+U.length:Nat):Int),((A.length+U.length+V.length:Nat):Int),((),())) (A++(U++V)++B)=some ((),A++(V++U)++B))(hS:ajE n rO zM L3 pV oo S ro)
include hc h3 h9 KU h21 KV hro hS
theorem sym:∀(g:Nat)(A U V B:List α),fP key U->fP key V->0<U.length->0<V.length->U.length+V.length<g->U.length+V.length<n->(A++(U++(V++B))).length<2^59->
 ∃W,fP key W/\eB key W (U++V)/\W.length=U.length+V.length/\S g ((),(A.length:Int),((A.length+U.length:Nat):Int),((A.length+U.length+V.length:Nat):Int),((),())) (A++(U++(V++B)))=some ((),A++(W++B))
 |0,_,_,_,_,_,_,_,_,h,_,_=>ah|g+1,A,U,V,B,hU,hV,hu,hv,hg,hn,hb=>by
  have hb':=hb;simp only[bE] at hb';rw[hS];by_cases u1:U.length=1
  ·obtain⟨x,rfl⟩:=List.length_eq_one_iff.1 u1
   obtain⟨V1,V2,rfl,e1,e2,e3⟩:=s3 hc h3 (n:=n) (g:=g) (A:=A) (B:=B) (x:=x) hV K7 ah;have hw:fP key (V1++x::V2):=by
    have h1:=List.pairwise_append.1 hV;refine fP.app h1.1 (List.pairwise_cons.2 ⟨fun b hb=>Int.not_lt.1 (e3 b hb),h1.2.1⟩) fun a ha b hb=>?_;rcases iC.1 hb with rfl|hb
    ·exact Int.le_of_lt (e2 a ha)
    ·exact h1.2.2 a ha b hb
   refine⟨V1++x::V2,hw,?_,oq,?_⟩
   ·have:eB key (V1++[x]) ([x]++V1):=eB.swap fun a ha b hb=>by rw[iX.1 hb];exact e2 a ha
    have:=this.app (eB.refl (key:=key) V2);simpa using this
   ·refine mG La (bd (a:=((A.length+1+V1.length:Nat):Int)) ?_ ?_)
    ·rw[<-e1];simp
    ·refine bd (a:=((),A++(V1++x::(V2++B)))) ?_ ?_
     ·have:=fwd h9 (g:=g) (x:=x) (B:=V2++B) V1 A n K7 (by simp only[bE] at hn;omega)
      rw[<-this];simp
     ·simp
  ·by_cases v1:V.length=1
   ·obtain⟨y,rfl⟩:=List.length_eq_one_iff.1 v1
    obtain⟨gW,iI,rfl,e1,e2,e3⟩:=s15 hc KU (n:=n) (g:=g) (A:=A) (B:=B) (y:=y) hU K7 ah;have hw:fP key (gW++y::iI):=by
     have h1:=List.pairwise_append.1 hU;refine fP.app h1.1 (List.pairwise_cons.2 ⟨fun b hb=>Int.le_of_lt (Int.not_le.1 (e3 b hb)),h1.2.1⟩) fun a ha b hb=>?_;rcases iC.1 hb with rfl|hb
     ·exact e2 a ha
     ·exact h1.2.2 a ha b hb
    have hl2:(gW++iI).length=gW.length+iI.length:=bE;refine⟨gW++y::iI,hw,?_,oq,?_⟩
    ·have:eB key ([y]++iI) (iI++[y]):=eB.swap fun a ha b hb=>by rw[iX.1 ha];exact Int.not_le.1 (e3 b hb)
     have:=(eB.refl (key:=key) gW).app this;simpa using this
    ·refine kK La (mG La (bd (a:=((A.length+gW.length:Nat):Int)) ?_ ?_))
     ·rw[<-e1];simp
     ·refine bd (a:=((),A++(gW++(y::(iI++B))))) ?_ ?_
      ·have hl2:(gW++iI).length=gW.length+iI.length:=bE
       have:=bwd h21 (g:=g) (x:=y) (A:=A++gW) _ iI B n rfl K7 ah;rw[show ((A.length+(gW++iI).length:Nat):Int)=(((A++gW).length+iI.length:Nat):Int) by simp only[bE];omega,show ((A.length+gW.length:Nat):Int)=((A++gW).length:Nat) by rw[bE]];simp only[jD] at this⊢;exact this
      ·simp
   ·
    generalize hmid:(A.length+(A.length+U.length+V.length))/2=mid;have key2:∀(lo hi:Nat),A.length<=lo->hi<=A.length+U.length->hi<=mid->mid<=lo+V.length->lo<=hi->(lo=A.length\/mid=lo+V.length)->(hi=A.length+U.length\/hi=mid)->
     ∃(s:Nat) (gW iI V1 V2:List α),pV g (A.length:Int) ((A.length+U.length:Nat):Int) ((A.length+U.length+V.length:Nat):Int) (A++(U++(V++B))) n ((lo:Int),(hi:Int))=some (s:Int)/\U=gW++iI/\V=V1++V2/\s=A.length+gW.length/\mid=s+V1.length/\
      (∀a∈gW,∀b∈V2,key a<=key b)/\(∀a∈V1,∀b∈iI,key a<key b):=by
     intro lo hi q1 q2 q3 q4 q5 q6 q7;obtain⟨s,e1,e2,e3,e4,e5⟩:=azE hc KV (g:=g) (n:=n) (A:=A) (U:=U) (V:=V) (B:=B) hmid.symm q1 q2 q3 q4 q5 hb hn;have f1:∀a∈U.take (s-A.length),∀b∈V.drop (mid-s),key a<=key b:=fun a ha b hb=>by obtain⟨i,i1,i2⟩:=adb ha;obtain⟨j,j1,j2⟩:=ade hb;have hj:j<V.length:=(by rw[oC] at j2;exact j2.1);have hs:lo<s:=(by clear e4 e5;omega);obtain⟨u,v,f1,f2,f3⟩:=e4 hs;have g1:=hU.le (i:=i) (j:=s-1-A.length) (by clear f1 f2 f3 e4 e5;omega) i2 f1;have g2:=hV.le (i:=mid-s) (j:=j) j1 f2 j2;exact Int.le_trans g1 (Int.le_trans f3 g2)
     have f2:∀a∈V.take (mid-s),∀b∈U.drop (s-A.length),key a<key b:=fun a ha b hb=>by obtain⟨i,i1,i2⟩:=adb ha;obtain⟨j,j1,j2⟩:=ade hb;have hj:j<U.length:=(by rw[oC] at j2;exact j2.1);have hs:s<hi:=(by clear e4 e5;omega);obtain⟨u,v,f1,f2,f3⟩:=e5 hs;have g1:=hV.le (i:=i) (j:=mid-1-s) (by clear f1 f2 f3 e4 e5;omega) i2 f2;have g2:=hU.le (i:=s-A.length) (j:=j) j1 f1 j2;exact Int.lt_of_le_of_lt g1 (Int.lt_of_lt_of_le f3 g2)
     exact⟨s,U.take (s-A.length),U.drop (s-A.length),V.take (mid-s),V.drop (mid-s),e1,(tL (s-A.length) U).symm,(tL (mid-s) V).symm,by clear e4 e5;rw[oz,Lx ah];omega,by clear e4 e5;rw[oz,Lx ah];omega,f1,f2⟩
    have part:∀(A' X Y B':List α),fP key X->fP key Y->X.length+Y.length<g->X.length+Y.length<n->(A'++(X++(Y++B'))).length<2^59->∃W,fP key W/\eB key W (X++Y)/\W.length=X.length+Y.length/\
     ((0<X.length/\0<Y.length)->S g ((),(A'.length:Int),((A'.length+X.length:Nat):Int),((A'.length+X.length+Y.length:Nat):Int),((),())) (A'++(X++(Y++B')))=some ((),A'++(W++B')))/\(¬(0<X.length/\0<Y.length)->W=X++Y):=by
     intro A' X Y B' hX hY hg' hn' hb';by_cases hxy:0<X.length/\0<Y.length
     ·obtain⟨W,w1,w2,w3,w4⟩:=sym g A' X Y B' hX hY hxy.1 hxy.2 hg' hn' hb'
      exact⟨W,w1,w2,w3,fun _=>w4,fun h=>absurd hxy h⟩
     ·refine⟨X++Y,?_,eB.refl _,by rw[bE],fun h=>absurd h hxy,fun _=>rfl⟩
      by_cases hX0:X.length=0
      ·rw[lZ hX0];exact hY
      ·have:Y=[]:=lZ ah
       rw[this,lF];exact hX
    have rest:∀(s:Nat)(gW iI V1 V2:List α),U=gW++iI->V=V1++V2->s=A.length+gW.length->mid=s+V1.length->(∀a∈gW,∀b∈V2,key a<=key b)->(∀a∈V1,∀b∈iI,key a<key b)->
     ∃W W1 D1 D2,fP key W/\eB key W (U++V)/\W.length=U.length+V.length/\
      (((bif decide ((s:Int)< ((A.length+U.length:Nat):Int)) then decide (((A.length+U.length:Nat):Int)< ((mid+(A.length+U.length)-s:Nat):Int)) else false)=true/\ro ((),(s:Int),((A.length+U.length:Nat):Int),((mid+(A.length+U.length)-s:Nat):Int),((),())) (A++(U++(V++B)))=some ((),D1))\/
        ((bif decide ((s:Int)< ((A.length+U.length:Nat):Int)) then decide (((A.length+U.length:Nat):Int)< ((mid+(A.length+U.length)-s:Nat):Int)) else false)=false/\A++(U++(V++B))=D1))/\
      (((bif decide ((A.length:Int)< (s:Int)) then decide ((s:Int)< (mid:Int)) else false)=true/\S g ((),(A.length:Int),(s:Int),(mid:Int),((),())) D1=some ((),D2))\/
        ((bif decide ((A.length:Int)< (s:Int)) then decide ((s:Int)< (mid:Int)) else false)=false/\D1=D2))/\
      (((bif decide ((mid:Int)< ((mid+(A.length+U.length)-s:Nat):Int)) then decide (((mid+(A.length+U.length)-s:Nat):Int)< ((A.length+U.length+V.length:Nat):Int)) else false)=true/\S g ((),(mid:Int),((mid+(A.length+U.length)-s:Nat):Int),((A.length+U.length+V.length:Nat):Int),((),())) D2=some ((),A++(W++B)))\/
        ((bif decide ((mid:Int)< ((mid+(A.length+U.length)-s:Nat):Int)) then decide (((mid+(A.length+U.length)-s:Nat):Int)< ((A.length+U.length+V.length:Nat):Int)) else false)=false/\D2=A++(W++B)))/\W1=D1:=by
     intro s gW iI V1 V2 azH eV es em F1 F2;subst azH eV;simp only[bE] at hb' hg hn hmid hu hv u1 v1;have adi:=List.pairwise_append.1 hU;have adj:=List.pairwise_append.1 hV;obtain⟨W1,a1,a2,a3,a4,a5⟩:=part A gW V1 (iI++(V2++B)) adi.1 adj.1 ah ah p8;obtain⟨W2,b1,b2,b3,b4,b5⟩:=part (A++W1) iI V2 B adi.2.1 adj.2.1 ah ah p8;refine⟨W1++W2,_,A++(gW++(V1++(iI++(V2++B)))),A++(W1++(iI++(V2++B))),?_,?_,p8,?_,?_,?_,rfl⟩
     ·refine fP.app a1 b1 fun a ha b hb=>?_
      rcases oW.1 (a2.mem ha) with ha|ha<;>rcases oW.1 (b2.mem hb) with hb|hb
      ·exact adi.2.2 a ha b hb
      ·exact F1 a ha b hb
      ·exact Int.le_of_lt (F2 a ha b hb)
      ·exact adj.2.2 a ha b hb
     ·refine(a2.app b2).trans ?_
      have:=((eB.refl (key:=key) gW).app (eB.swap F2)).app (eB.refl (key:=key) V2);simpa using this
     ·by_cases hh:0<iI.length/\0<V1.length
      ·refine .inl ⟨adg p8 p8,?_⟩
       have:=hro (A++gW) iI V1 (V2++B) hh.1 hh.2 p8 ah;rw[show (s:Int)=((A++gW).length:Nat) by rw[bE];omega,show ((A.length+(gW++iI).length:Nat):Int)=(((A++gW).length+iI.length:Nat):Int) by simp only[bE];omega,
        show ((mid+(A.length+(gW++iI).length)-s:Nat):Int)=(((A++gW).length+iI.length+V1.length:Nat):Int) by simp only[bE];omega]
       simp only[jD] at this⊢;exact this
      ·refine .inr ⟨adh p8,?_⟩
       by_cases h0:iI.length=0
       ·rw[lZ h0];simp
       ·have:V1=[]:=lZ ah
        rw[this];simp
     ·by_cases hh:0<gW.length/\0<V1.length
      ·refine .inl ⟨adg ah ah,?_⟩
       rw[show (s:Int)=((A.length+gW.length:Nat):Int) by omega,show (mid:Int)=((A.length+gW.length+V1.length:Nat):Int) by omega];exact a4 hh
      ·exact .inr ⟨adh ah,by rw[a5 hh];simp⟩
     ·by_cases hh:0<iI.length/\0<V2.length
      ·refine .inl ⟨adg p8 p8,?_⟩
       rw[show (mid:Int)=((A++W1).length:Nat) by rw[bE];omega,show ((mid+(A.length+(gW++iI).length)-s:Nat):Int)=(((A++W1).length+iI.length:Nat):Int) by simp only[bE];omega,
        show ((A.length+(gW++iI).length+(V1++V2).length:Nat):Int)=(((A++W1).length+iI.length+V2.length:Nat):Int) by simp only[bE];omega]
       have:=b4 hh;simp only[jD] at this⊢;exact this
      ·exact .inr ⟨adh p8,by rw[b5 hh];simp⟩
    have c1:((IntKind.wrap .i64 (((A.length+U.length:Nat):Int)-(A.length:Int)))==(1:Int))=false:=La;have c2:((IntKind.wrap .i64 (((A.length+U.length+V.length:Nat):Int)-((A.length+U.length:Nat):Int)))==(1:Int))=false:=La;have eN:IntKind.wrap .i64 ((mid:Int)+((A.length+U.length:Nat):Int))=((mid+(A.length+U.length):Nat):Int):=Ri;have eM:=QT (i:=A.length) (j:=A.length+U.length+V.length) ah;rw[hmid] at eM;have eE:∀s:Nat,s<=mid+(A.length+U.length)->s<2^60->IntKind.wrap .i64 (((mid+(A.length+U.length):Nat):Int)-(s:Int))=((mid+(A.length+U.length)-s:Nat):Int):=fun s h1 h2=>Ri
    by_cases hmm:mid<A.length+U.length
    ·obtain⟨s,gW,iI,V1,V2,k1,k2,k3,k4,k5,k6,k7⟩:=key2 (mid+(A.length+U.length)-(A.length+U.length+V.length)) mid ah ah ah ah ah (.inr ah) (.inr rfl)
     obtain⟨W,W1,D1,D2,w1,w2,w3,H1,H2,H3,_⟩:=rest s gW iI V1 V2 k2 k3 k4 k5 k6 k7;refine⟨W,w1,w2,w3,kK c1 (kK c2 (iM rfl ?_))⟩;rw[eM,eN];refine mG (decide_eq_true ah) ?_;rw[eE (A.length+U.length+V.length) ah ah];refine bd k1 ?_
     (try dsimp only)
     rw[eE s ah ah];refine vN H1 ?_ (fun q1=>?_)
     ·refine vN H2 ?_ (fun q2=>?_)
      ·exact vN H3 rfl (fun q3=>CK)
      ·subst q2;exact vN H3 rfl (fun q3=>CK)
     ·subst q1
      refine vN H2 ?_ (fun q2=>?_)
      ·exact vN H3 rfl (fun q3=>CK)
      ·subst q2;exact vN H3 rfl (fun q3=>CK)
    ·obtain⟨s,gW,iI,V1,V2,k1,k2,k3,k4,k5,k6,k7⟩:=key2 A.length (A.length+U.length) ah ah ah ah ah (.inl rfl) (.inl rfl)
     obtain⟨W,W1,D1,D2,w1,w2,w3,H1,H2,H3,_⟩:=rest s gW iI V1 V2 k2 k3 k4 k5 k6 k7;refine⟨W,w1,w2,w3,kK c1 (kK c2 (iM rfl ?_))⟩;rw[eM,eN];refine kK (decide_eq_false ah) (bd k1 ?_)
     (try dsimp only)
     rw[eE s ah ah];refine vN H1 ?_ (fun q1=>?_)
     ·refine vN H2 ?_ (fun q2=>?_)
      ·exact vN H3 rfl (fun q3=>CK)
      ·subst q2;exact vN H3 rfl (fun q3=>CK)
     ·subst q1
      refine vN H2 ?_ (fun q2=>?_)
      ·exact vN H3 rfl (fun q3=>CK)
      ·subst q2;exact vN H3 rfl (fun q3=>CK)
end
end So
end
section
open Go aY
namespace So
variable {α:Type}
def yK (key:α->Int)(bs:Nat)(L:List (List α)):Prop:=∀X∈L,X.length=bs/\fP key X
theorem yK.len {key:α->Int}{bs:Nat}:∀{L:List (List α)},yK key bs L->L.flatten.length=L.length*bs
 | [],_=>aC|X::L,h=>by rw[List.flatten_cons,bE,yK.len (fun Y hY=>h Y (iK _ hY)),(h X (fE ..)).1,List.length_cons,qO];omega
theorem yK.app {key:α->Int}{bs:Nat}{L:List (List α)}{X:List α}(h:yK key bs L)(h1:X.length=bs)(h2:fP key X):yK key bs (L++[X]):=fun Y hY=>by
 rcases oW.1 hY with hY|hY
 ·exact h Y hY
 ·rw[iX.1 hY];exact⟨h1,h2⟩
theorem ala (L:List (List α))(X:List α):(L++[X]).flatten=L.flatten++X:=aC
section
variable {key:α->Int}{n:Nat}{ins:Unit×Int×Int×(Unit×Unit)->List α->Option (PUnit×List α)}{sy:Unit×Int×Int×Int×(Unit×Unit)->List α->Option (PUnit×List α)}{L2:Int->Nat->(Int×Int)×List α->Option (Int×List α)}{oo:Int->Int->Nat->(Int×Int)×List α->Option (Int×List α)}{L7:Int->Nat->Int×List α->Option (PUnit×List α)}(hi:∀A W B:List α,(A++(W++B)).length<2^59->W.length+1<n->∃W',fP key W'/\eB key W' W/\W'.length=W.length/\ins ((),(A.length:Int),((A.length+W.length:Nat):Int),((),())) (A++(W++B))=some ((),A++(W'++B)))(hm:∀A U V B:List α,fP key U->fP key V->0<U.length->0<V.length->U.length+V.length<n->(A++(U++(V++B))).length<2^59->∃W,fP key W/\eB key W (U++V)/\W.length=U.length+V.length/\sy ((),(A.length:Int),((A.length+U.length:Nat):Int),((A.length+U.length+V.length:Nat):Int),((),())) (A++(U++(V++B)))=some ((),A++(W++B)))(h2:acC L2 ins)(h7:acD n L7 oo sy)(h9:ajG oo sy)
include hi hm h2 h7 h9
theorem st2 {N:Nat}(hN:N<2^58)(hn:N+1<n):∀(k:Nat)(L:List (List α))(R:List α)(m:Nat),yK key 20 L->R.length=k->(L.flatten++R).length=N->k<m->
 ∃L' R',yK key 20 L'/\R'.length<20/\eB key (L'.flatten++R') (L.flatten++R)/\(L'.flatten++R').length=N/\L2 (N:Int) m (((L.flatten.length:Int),((L.flatten.length+20:Nat):Int)),L.flatten++R)=some ((L'.flatten.length:Int),L'.flatten++R'):=by
 intro k;induction k using Nat.strongRecOn with
 |_ k ih=>
  intro L R m hL hR hl hk;obtain⟨m,rfl⟩:∃m',m=m'+1:=⟨m-1,ah⟩;have hl':=hl;rw[bE] at hl';rw[h2];by_cases hb:R.length<20
  ·exact⟨L,R,hL,hb,eB.refl _,hl,kK (decide_eq_false ah) rfl⟩
  ·have hX:(R.take 20).length=20:=Lm
   obtain⟨W,w1,w2,w3,w4⟩:=hi L.flatten (R.take 20) (R.drop 20) (by rw[tL];omega) ah;have hY:(R.drop 20).length=R.length-20:=yO;have hf:(L++[W]).flatten=L.flatten++W:=ala L W;obtain⟨L',R',g1,g2,g3,g4,g5⟩:=ih (R.length-20) ah (L++[W]) (R.drop 20) m (hL.app (w3.trans hX) w1) hY (by rw[hf,bE,bE];omega) ah;refine⟨L',R',g1,g2,g3.trans ?_,g4,mG (decide_eq_true ah) (bd (a:=((),L.flatten++(W++R.drop 20))) ?_ ?_)⟩
   ·rw[hf,jD]
    refine(eB.refl _).app ?_;have:=w2.app (eB.refl (key:=key) (R.drop 20));rw[tL] at this;exact this
   ·rw[tL,hX] at w4;exact w4
   ·rw[wr ah ah]
    rw[<-g5,hf,bE,w3,hX,jD];rfl
theorem Ob {N bs:Nat}(hbs:0<bs)(hbN:bs<N)(hN:N<2^57)(hn:N<n){R:List α}(hR:R.length<bs)(hRs:fP key R):∀(k:Nat)(P L:List (List α))(m:Nat),yK key (2*bs) P->yK key bs L->L.length=k->(P.flatten++(L.flatten++R)).length=N->k<m->
 ∃P' Q,yK key (2*bs) P'/\Q.length<2*bs/\(Q.length<=bs->fP key Q)/\(bs<Q.length->∃X,Q=X++R/\X.length=bs/\fP key X)/\eB key (P'.flatten++Q) (P.flatten++(L.flatten++R))/\(P'.flatten++Q).length=N/\
  oo (N:Int) (bs:Int) m (((P.flatten.length:Int),((P.flatten.length+2*bs:Nat):Int)),P.flatten++(L.flatten++R))=some ((P'.flatten.length:Int),P'.flatten++Q):=by
 intro k;induction k using Nat.strongRecOn with
 |_ k ih=>
  intro P L m hP hL hk hl hm';obtain⟨m,rfl⟩:∃m',m=m'+1:=⟨m-1,ah⟩;have hl':=hl;simp only[bE] at hl';rw[h9]
  match L,hL,hk,hl,hl' with
  | [],_,_,hl,hl'=>simp only[List.flatten_nil,List.length_nil,List.nil_append] at hl'⊢;exact⟨P,R,hP,ah,fun _=>hRs,fun h=>ah,eB.refl _,yN,kK (decide_eq_false ah) rfl⟩
  | [X],hL,_,hl,hl'=>obtain⟨x1,x2⟩:=hL X (fE ..);have e:[X].flatten=X:=aC;rw[e] at hl hl'⊢;refine⟨P,X++R,hP,Ey,fun h=>?_,fun h=>⟨X,rfl,x1,x2⟩,eB.refl _,by rw[bE,bE];omega,kK (decide_eq_false ah) rfl⟩;have:R=[]:=lZ (by rw[bE] at h;omega);rw[this,lF];exact x2
  |X::Y::L,hL,hk,hl,hl'=>
   obtain⟨x1,x2⟩:=hL X (fE ..);obtain⟨y1,y2⟩:=hL Y (iK _ (fE ..));simp only[List.flatten_cons,jD,bE] at hl'⊢;obtain⟨W,w1,w2,w3,w4⟩:=hm P.flatten X Y (L.flatten++R) x2 y2 ah ah ah p8;have hf:(P++[W]).flatten=P.flatten++W:=ala P W;obtain⟨P',Q,g1,g2,g3,g4,g5,g6,g7⟩:=ih L.length (by simp only[List.length_cons] at hk;omega) (P++[W]) L m (hP.app ah w1) (fun Z hZ=>hL Z (iK _ (iK _ hZ))) rfl (by rw[hf];simp only[bE];omega) (by simp only[List.length_cons] at hk;omega);refine⟨P',Q,g1,g2,g3,g4,g5.trans ?_,(by simpa using g6),mG (decide_eq_true ah) (bd (a:=((),P.flatten++(W++(L.flatten++R)))) ?_ ?_)⟩
   ·rw[hf,jD]
    refine(eB.refl _).app ?_;have:=w2.app (eB.refl (key:=key) (L.flatten++R));rw[jD] at this;exact this
   ·rw[wr ah ah,show (P.flatten.length:Int)+(bs:Int)=((P.flatten.length+X.length:Nat):Int) by omega,show ((P.flatten.length+2*bs:Nat):Int)=((P.flatten.length+X.length+Y.length:Nat):Int) by omega]
    exact w4
   ·rw[show IntKind.wrap .i64 ((2:Int)*(bs:Int))=((2*bs:Nat):Int) by rw[wr ah ah];omega,wr ah ah]
    rw[<-g7,hf,bE,w3,jD,show X.length+Y.length=2*bs by omega];rfl
theorem aaN {N:Nat}(hN:N<2^57)(hn:N<n):∀(k bs:Nat)(L:List (List α))(R:List α)(m:Nat),N-bs=k->0<bs->bs<2^58->yK key bs L->R.length<bs->fP key R->(L.flatten++R).length=N->k<m->
 ∃D,fP key D/\eB key D (L.flatten++R)/\D.length=N/\L7 (N:Int) m ((bs:Int),L.flatten++R)=some ((),D):=by
 intro k;induction k using Nat.strongRecOn with
 |_ k ih=>
  intro bs L R m hk hbs hbb hL hR hRs hl hm';obtain⟨m,rfl⟩:∃m',m=m'+1:=⟨m-1,ah⟩;rw[h7];by_cases hb:bs<N
  ·obtain⟨P',Q,g1,g2,g3,g4,g5,g6,g7⟩:=Ob hi hm h2 h7 h9 hbs hb hN hn hR hRs L.length [] L n (fun _ h=>bC) hL rfl yN (by have h1:=hL.len;rw[bE] at hl;have:L.length<=L.length*bs:=Nat.le_mul_of_pos_right _ hbs;omega)
   have e0:((([]:List (List α)).flatten.length:Nat):Int)=0:=rfl;have e1:IntKind.wrap .i64 ((2:Int)*(bs:Int))=((([]:List (List α)).flatten.length+2*bs:Nat):Int):=by rw[wr ah ah];simp
   have e2:IntKind.wrap .i64 ((bs:Int)*(2:Int))=((2*bs:Nat):Int):=Ri
   have alb:eB key (P'.flatten++Q) (L.flatten++R):=g5;have alc:=g6;rw[bE] at alc;by_cases hq:bs<Q.length
   ·obtain⟨X,rfl,x1,x2⟩:=g4 hq
    clear g4 g3;rw[bE] at alc hq g2;obtain⟨W,w1,w2,w3,w4⟩:=hm P'.flatten X R [] x2 hRs ah ah ah (by simp only[bE,List.length_nil];omega);obtain⟨D,d1,d2,d3,d4⟩:=ih (N-2*bs) ah (2*bs) P' W m rfl ah ah g1 ah w1 Ey ah;refine⟨D,d1,(d2.trans ((eB.refl _).app w2)).trans alb,d3,mG (decide_eq_true ah) (bd (a:=((P'.flatten.length:Int),P'.flatten++(X++R))) (by rw[e1];exact g7) ?_)⟩;rw[e2];refine mG (decide_eq_true (by show IntKind.wrap .i64 ((P'.flatten.length:Int)+(bs:Int))<_;rw[wr ah ah];omega)) (bd (a:=((),P'.flatten++W)) ?_ d4);show sy ((),((P'.flatten.length:Int),(IntKind.wrap .i64 ((P'.flatten.length:Int)+(bs:Int)),((N:Int),((),()))))) (P'.flatten++(X++R))=_;rw[wr ah ah,show (P'.flatten.length:Int)+(bs:Int)=((P'.flatten.length+X.length:Nat):Int) by omega,show (N:Int)=((P'.flatten.length+X.length+R.length:Nat):Int) by omega];simpa using w4
   ·clear g4
    have azI:=g3 ah;clear g3;obtain⟨D,d1,d2,d3,d4⟩:=ih (N-2*bs) ah (2*bs) P' Q m rfl ah ah g1 g2 azI g6 ah;refine⟨D,d1,d2.trans alb,d3,mG (decide_eq_true ah) (bd (a:=((P'.flatten.length:Int),P'.flatten++Q)) (by rw[e1];exact g7) ?_)⟩;rw[e2];exact kK (decide_eq_false (by show¬IntKind.wrap .i64 ((P'.flatten.length:Int)+(bs:Int))<_;rw[wr ah ah];omega)) d4
  ·refine⟨L.flatten++R,?_,eB.refl _,hl,kK (decide_eq_false ah) rfl⟩
   have h1:=hL.len;have hl':=hl;rw[bE] at hl'
   match L,hL,h1,hl' with
   | [],_,_,_=>simpa using hRs| [X],hL,h1,hl'=>have:R=[]:=lZ (by simp only[List.length_cons,List.length_nil] at h1;omega);rw[this];simpa using (hL X (fE ..)).2|X::Y::L,_,h1,hl'=>exfalso;simp only[List.length_cons] at h1;have:2*bs<=(L.length+1+1)*bs:=tK _ ah;omega
variable {st:Unit×Int×(Unit×Unit)->List α->Option (PUnit×List α)}(hs:acE n L2 L7 ins st)
include hs
theorem stable {D:List α}(hN:D.length<2^57)(hn:D.length+21<n):∃D',fP key D'/\eB key D' D/\D'.length=D.length/\st ((),(D.length:Int),((),())) D=some ((),D'):=by obtain⟨L,R,g1,g2,g3,g4,g5⟩:=st2 hi hm h2 h7 h9 (N:=D.length) ah ah _ [] D n (fun _ h=>bC) rfl rfl ah;have hl:=g4;rw[bE] at hl;obtain⟨R',r1,r2,r3,r4⟩:=hi L.flatten R [] (by simp only[bE,List.length_nil];omega) ah;obtain⟨D',d1,d2,d3,d4⟩:=aaN hi hm h2 h7 h9 hN ah _ 20 L R' n rfl ah ah g1 ah r1 Ey ah;refine⟨D',d1,(d2.trans ((eB.refl _).app r2)).trans g3,d3,?_⟩;rw[hs];refine bd (a:=((L.flatten.length:Int),L.flatten++R)) g5 (bd (a:=((),L.flatten++R')) ?_ (bd (a:=((),D')) d4 rfl));show ins ((),((L.flatten.length:Int),((D.length:Int),((),())))) (L.flatten++R)=_;rw[show (D.length:Int)=((L.flatten.length+R.length:Nat):Int) by omega];simpa using r4
end
end So
end
section
open Go Go.Proofs aY
namespace Sh
theorem azJ (n:Nat)(a b:Int):∃r:Int,cmp_Compare_int n (a,b)=some r/\(r<0↔a<b):=by
 have h1:∀x:Int,cmp_isNaN_int n x=some false:=fun x=>(avF n x).trans (congrArg (some (α:=Bool)) aC);have key:∀z:Option Int,(bif decide (a<b) then some (-1:Int) else bif decide (a>b) then some (1:Int) else some (0:Int))=z->cmp_Compare_int n (a,b)=z:=fun z hz=>by rw[avG];exact So.bd (h1 a) (So.bd (h1 b) hz)
 by_cases e1:a<b
 ·exact⟨-1,key _ (So.mG (decide_eq_true e1) rfl),ah⟩
 ·by_cases e2:a>b
  ·exact⟨1,key _ (So.kK (decide_eq_false e1) (So.mG (decide_eq_true e2) rfl)),ah⟩
  ·exact⟨0,key _ (So.kK (decide_eq_false e1) (So.kK (decide_eq_false e2) rfl)),ah⟩
theorem azK (n:Nat):So.QA (fun e:Row=>e.Entry.From) (fun p=>A8 n p):=fun a b=>by
 obtain⟨r,h1,h2⟩:=azJ n a.Entry.From b.Entry.From;exact⟨r,(awp n a b).trans (So.bd h1 rfl),h2⟩
theorem azL {n:Nat}{D:List Row}(hN:D.length<2^57)(hn:D.length+21<n):∃D',So.fP (fun e:Row=>e.Entry.From) D'/\So.eB (fun e:Row=>e.Entry.From) D' D/\D'.length=D.length/\
 D8 n (((),((),()))) D=some ((),D'):=by
 have hc:=azK n;have h4:=fun x1 x2 x4 m x6 x7=>awq n x1 x2 x4 m x6 x7;have h1:=fun x1 x2 m x4 x5=>awr n x1 x2 m x4 x5;have hsw:∀(A X M Y B:List Row),X.length=Y.length->(A++X++M++Y++B).length<2^61->X.length<n->Ba n ((),(A.length:Int),((A.length+X.length+M.length:Nat):Int),(X.length:Int),((),())) (A++X++M++Y++B)=some ((),A++Y++M++X++B):=fun A X M Y B e hb hn=>by rw[awv];have:=So.ak9 (α:=Row) (L1:=fun a b c m p=>Ws n a b c m p) (fun x1 x2 x3 m x5 x6=>awu n x1 x2 x3 m x5 x6) (A:=A) (M:=M) (B:=B) X Y [] [] n e rfl Cz hn;simp only[List.nil_append,List.length_nil,nS] at this;exact So.bd (a:=((),A++Y++M++X++B)) this rfl
 have hro:∀A U V B:List Row,0<U.length->0<V.length->(A++(U++V)++B).length<2^61->U.length+V.length<n->Ck n ((),(A.length:Int),((A.length+U.length:Nat):Int),((A.length+U.length+V.length:Nat):Int),((),())) (A++(U++V)++B)=some ((),A++(V++U)++B):=fun A U V B hu hv hb hn=>by rw[awx];simp only[bE] at hb;rw[So.wr ah ah,So.wr ah ah,show ((A.length+U.length:Nat):Int)-(A.length:Int)=(U.length:Int) by omega,show ((A.length+U.length+V.length:Nat):Int)-((A.length+U.length:Nat):Int)=(V.length:Int) by omega];exact So.azC (α:=Row) (n:=n) (Gm:=fun p q=>Ba n p q) hsw (L2:=fun a m p=>Wt n a m p) (fun x2 m x5 x6 x7=>aww n x2 m x5 x6 x7) hu hv p8 hn
 have hi:∀A W B:List Row,(A++(W++B)).length<2^59->W.length+1<n->∃W',So.fP (fun e:Row=>e.Entry.From) W'/\So.eB (fun e:Row=>e.Entry.From) W' W/\W'.length=W.length/\A9 n ((),(A.length:Int),((A.length+W.length:Nat):Int),((),())) (A++(W++B))=some ((),A++(W'++B)):=fun A W B hb hn=>by obtain⟨W',w1,w2,w3,w4⟩:=So.ayM (α:=Row) (cmp:=fun p=>A8 n p) hc (L4:=fun a b c m p=>Wp n a b c m p) h4 (n:=n) (L1:=fun a b m p=>Wq n a b m p) h1 (A:=A) (W:=W) (B:=B) ah hn;refine⟨W',w1,w2,w3,?_⟩;rw[awt];exact So.bd (a:=((),A++(W'++B))) w4 rfl
 have hm:∀A U V B:List Row,So.fP (fun e:Row=>e.Entry.From) U->So.fP (fun e:Row=>e.Entry.From) V->0<U.length->0<V.length->U.length+V.length<n->(A++(U++(V++B))).length<2^59->∃W,So.fP (fun e:Row=>e.Entry.From) W/\So.eB (fun e:Row=>e.Entry.From) W (U++V)/\W.length=U.length+V.length/\
  QP n ((),(A.length:Int),((A.length+U.length:Nat):Int),((A.length+U.length+V.length:Nat):Int),((),())) (A++(U++(V++B)))=some ((),A++(W++B)):=fun A U V B hU hV hu hv hn hb=>by
  obtain⟨W,w1,w2,w3,w4⟩:=So.sym (α:=Row) (cmp:=fun p=>A8 n p) hc (n:=n) (L3:=fun g a l m p=>Wu n g a l m p) (oo:=fun g a m p=>Wv n g a m p) (rO:=fun g a l m p=>Ww n g a l m p) (zM:=fun g a m p=>Wx n g a m p) (pV:=fun g a b c l m p=>Wy n g a b c l m p)
   (ro:=fun p q=>Ck n p q) (S:=fun g p q=>uz n g p q)
   (fun g x1 x4 m x5 x6=>awy n g x1 x4 m x5 x6) (fun g r m x y=>awz n g r m x y) (fun g x2 x4 m x y=>awC n g x2 x4 m x y) (fun g r m x y=>awD n g r m x y) (fun g x1 x2 x3 x4 m x y=>awE n g x1 x2 x3 x4 m x y) hro
   (fun g x1 x2 x3 x4=>awF n g x1 x2 x3 x4) n A U V B hU hV hu hv hn hn hb
  exact⟨W,w1,w2,w3,by unfold QP;exact w4⟩
 obtain⟨D',d1,d2,d3,d4⟩:=So.stable (α:=Row) (key:=fun e:Row=>e.Entry.From) (n:=n) (ins:=fun p q=>A9 n p q) (sy:=fun p q=>QP n p q) (L2:=fun a m p=>Wz n a m p) (oo:=fun a b m p=>WA n a b m p) (L7:=fun a m p=>WB n a m p) hi hm
  (fun x1 m x3 x4 x5=>awG n x1 m x3 x4 x5) (fun x1 m x y=>awI n x1 m x y) (fun x1 dA m a b c=>awH n x1 dA m a b c) (st:=fun p q=>QR n p q) (fun x1 x2=>awJ n x1 x2) (D:=D) hN hn
 refine⟨D',d1,d2,d3,?_⟩;rw[awK];exact So.bd (a:=((),D')) d4 rfl
end Sh
end
section
open Go Go.Proofs aY
set_option maxRecDepth 100000
namespace Sh
theorem Xl {L:List (Int×Row)->PUnit×PUnit×List Row->Option (PUnit×PUnit×List Row)}(h0:∀A,L [] ((),((),A))=some ((),((),A)))(hs:∀i r xs A,L ((i,r)::xs) ((),((),A))=bif r.fH==(0:Int) then bif dG (A.length+([r].length)) 112 then L xs (((),((),A++[r]))) else none else L xs (((),((),A))))(k:Int):∀(l:List Row)(i:Nat)(A:List Row),A.length+l.length<=65536->L (kI k i l) ((),((),A))=some ((),((),A++l.filter (dI k)))
 | [],i,A,_=>by show L [] _=_;rw[h0];simp|r::l,i,A,hl=>by
  rw[List.length_cons] at hl;by_cases h:r.Entry.ID=k
  ·rw[QN h,hs]
   by_cases hd:r.fH=0
   ·have hlv:dI k r=true:=by simp[dI,ig,h,hd]
    rw[oD hlv,beq_iff_eq.2 hd,cond_true];refine bJ (qM rT ah) ?_;rw[Xl h0 hs k l _ _ K8,jD];rfl
   ·have hlv:dI k r=false:=by simp[dI,ig,hd]
    rw[nT (by rw[hlv];simp),beq_eq_false_iff_ne.2 hd,cond_false];exact Xl h0 hs k l _ _ ah
  ·have hlv:dI k r=false:=by simp[dI,ig,h]
   rw[KR h,nT (by rw[hlv];simp)];exact Xl h0 hs k l _ _ ah
theorem ald {n:Nat}{b:Book}{id:Int}(hb:b.Rows.length<=65536)(hn:2^20<n):D9 n (b,id)=some (gM b.Rows id):=by have hfl:(b.Rows.filter (dI id)).length<=b.Rows.length:=List.length_filter_le _ _;obtain⟨D,d1,d2,_,d4⟩:=azL (n:=n) (D:=b.Rows.filter (dI id)) ah ah;have hD:D=gM b.Rows id:=(So.acW d1 d2).symm;rw[hD] at d4;rw[awN];refine bs (KF n b id) (bs (a:=((),((),b.Rows.filter (dI id)))) ?_ (bs (a:=((),gM b.Rows id)) d4 rfl));exact bs (a:=kI id 0 b.Rows) (KQ hb) (Xl (L:=fun xs p=>Gq n xs p) (fun A=>awL ..) (fun i r xs A=>awM ..) id b.Rows 0 [] (by rw[List.length_nil];omega))
theorem zV {α β:Type}{x:Option α}{v:α}{a:β}{f:α->β}{r:β}(h:x=some v)(k:f v=r):Option.elim x a f=r:=zY
theorem Xm {α β:Type}{x:Option α}{a:β}{f:α->β}{r:β}(h:x=none)(k:a=r):Option.elim x a f=r:=zY
theorem adk {k:Int}:∀(l:List Row)(i:Nat),l.any (ig k)=false->kI k i l=[]
 | [],_,_=>rfl|r::l,i,h=>by
  rw[List.any_cons,kP] at h;have h1:¬r.Entry.ID=k:=by simpa [ig] using h.1
  rw[KR h1];exact adk l _ h.2
theorem ale {k:Int}:∀(l:List Row)(i:Nat),l.any (ig k)=true->∃p xs,kI k i l=p::xs
 | [],_,h=>bC|r::l,i,h=>by
  by_cases h1:r.Entry.ID=k
  ·exact⟨_,_,QN h1⟩
  ·rw[KR h1]
   rw[List.any_cons,akY h1,Bool.false_or] at h;exact ale l _ h
theorem Bn {x:Row}{l:List Row}(h:(x::l).length<=65536):aR (x::l) (Go.IntKind.wrap .i64 (((((x::l).length:Nat):Int))-(1:Int)))=some ((x::l).getLast (List.cons_ne_nil x l)):=by
 rw[So.wr tH ah];have:(((x::l).length:Nat):Int)-1=(((x::l).length-1:Nat):Int):=tH
 rw[this];refine bH ?_;rw[<-List.getLast?_eq_getElem?,List.getLast?_eq_some_getLast (List.cons_ne_nil x l)]
theorem xu {x:Row}{l:List Row}:aR (x::l) (0:Int)=some x:=bH (i:=0) rfl
section
variable {n:Nat}{ent:Entry->Int}{b:Book}{e:Event}
theorem azM (hb:b.Rows.length<=65536)(l:List Row):(b.Rows.any (ig e.ID)=true->J7 n (b,(e,l))=some (((),()),(6:Int)))/\(b.Rows.any (ig e.ID)=false->J7 n (b,(e,l))=none/\OM n (b,(e,l))=some (((),(e.ID,((0:Int),(e.bP,(e.Day,(e.Until,((1048577:Int),(e.aB,(e.Vec,e.aQ))))))))),(0:Int))):=by
 refine⟨fun h=>?_,fun h=>⟨?_,?_⟩⟩
 ·obtain⟨⟨i,r⟩,xs,hx⟩:=ale b.Rows 0 h
  refine(ajY n b e l).trans ?_;exact bs (KF n b e.ID) (bs (a:=.inr ((),(((),()),(6:Int)))) (bs (a:=kI e.ID 0 b.Rows) (KQ hb) (by rw[hx];exact awR ..)) rfl)
 ·refine(ajY n b e l).trans ?_
  exact bs (KF n b e.ID) (bs (a:=.inl ((),(((),()),(0:Int)))) (bs (a:=kI e.ID 0 b.Rows) (KQ hb) (by rw[adk b.Rows 0 h];exact awQ ..)) rfl)
 ·refine(awP n b e l).trans ?_
  exact bs (KF n b e.ID) (bs (a:=.inl ((),(((),()),(0:Int)))) (bs (a:=kI e.ID 0 b.Rows) (KQ hb) (by rw[adk b.Rows 0 h];exact awO ..)) rfl)
theorem Xn (l:List Row)(id:Int):(gM l id).length<=l.length:=by unfold gM;rw[So.akM];exact List.length_filter_le _ _
theorem adl {d:fq}{c id:Int}{l K V:List Row}(h:Cut d c (gM l id) K V):(oQ (some d) l id c).length<=1:=by
 have h1:((l.filter (dI id)).filterMap (kC d c)).Perm V:=by rw[<-h.ac2];exact((Xd l id).symm.filterMap _)
 show ((l.filter (dI id)).filterMap (kC d c)).length<=1;rw[h1.length_eq];exact h.one
theorem azN {fit:List Int->List Attr->Int}(hI:Inv fit b)(hb:b.Rows.length<=65536)(hdl:b.dL.length<=2^30)(hn:2^20<n)(hv:bO b.Rows e.ID<=2^40)(hc0:0<=b.aB)(hc1:b.aB<=2^30)(hE:∀x:Entry,x.Vec=e.Vec->x.aQ=e.aQ->yG n (b.aN,x)=some (ent x)):Gd n (b,e)=some (ug ent b e):=by
 rw[axR,So.wr (i:=b.aB+1) ah ah];unfold ug;cases h1:(bif (bif (bif e.aB !=b.aB+1 then true else decide (e.aB>1073741824)) then true else decide (e.Day<b.Day)) then true else decide (e.Day>1048576));case true=>rfl
 rw[cond_false,cond_false];have hkr:(bif decide (e.Kind< (1:Int)) then true else decide (e.Kind>=(6:Int)))=(decide (e.Kind<1)||decide (e.Kind>5)):=by rw[show decide (e.Kind>=6)=decide (e.Kind>5) from decide_eq_decide.2 ah];cases decide (e.Kind<1)<;>rfl
 rw[hkr];cases h2:(decide (e.Kind<1)||decide (e.Kind>5));case true=>rfl
 rw[cond_false,cond_false];have hk:e.Kind=1\/e.Kind=2\/e.Kind=3\/e.Kind=4\/e.Kind=5:=by simp only[kP,decide_eq_false_iff_not] at h2;omega
 have hll:=Xn b.Rows e.ID;refine bs (ald hb hn) ?_;generalize hL:gM b.Rows e.ID=L at hll⊢;rcases hk with hk|hk|hk|hk|hk
 ·
  have k1:(e.Kind==(1:Int))=true:=ko
  have k2:(e.Kind==(2:Int))=false:=ko
  have k3:(e.Kind==(3:Int))=false:=ko
  have k4:(e.Kind==(4:Int))=false:=ko
  have k5:(e.Kind==(5:Int))=false:=ko
  have n1:(e.Kind !=(1:Int))=false:=ko
  simp only[k1,k2,k3,k4,k5,n1,cond_true,cond_false];refine bW (by cases ((L.length:Int)==(0:Int))<;>rfl) ?_;obtain⟨g1,g2⟩:=azM (n:=n) (e:=e) hb L;cases ha:b.Rows.any (ig e.ID)
  ·obtain⟨g3,g4⟩:=g2 ha
   refine Xm g3 (zV g4 (bW rfl ?_));refine bs (azu (ent:=ent) (x:=⟨e.ID,0,e.bP,e.Day,e.Until,1048577,e.aB,e.Vec,e.aQ⟩) hb hdl hn hv (hE _ rfl rfl)) rfl
  ·exact zV (g1 ha) (bJ rfl rfl)
 ·
  have k1:(e.Kind==(1:Int))=false:=ko
  have k2:(e.Kind==(2:Int))=true:=ko
  have k3:(e.Kind==(3:Int))=false:=ko
  have k4:(e.Kind==(4:Int))=false:=ko
  have k5:(e.Kind==(5:Int))=false:=ko
  have n1:(e.Kind !=(1:Int))=true:=ko
  have n5:(e.Kind !=(5:Int))=true:=ko
  simp only[k1,k2,k3,k4,k5,n1,n5,cond_true,cond_false];cases L with
  |nil=>rfl|cons x l=>
  refine bW (by rw[beq_eq_false_iff_ne.2 tH];rfl) ?_;dsimp only;have hc:(bif decide (e.From< (0:Int)) then true else decide ((imax e.From x.Entry.From)>=((x::l).getLast (List.cons_ne_nil x l)).Entry.To))=(decide (e.From<0)||decide (mD x l<=imax e.From x.Entry.From)):=by
   cases decide (e.From<0)<;>rfl
  cases hq:(decide (e.From<0)||decide (mD x l<=imax e.From x.Entry.From))
  ·have g1:J8 n (b,(e,x::l))=none:=by refine(ajZ n b e (x::l)).trans ?_;refine bs xu (bs (Bn (bZ hll hb)) (bW (hc.trans hq) (bs (WE ..) rfl)))
   have g2:OO n (b,(e,x::l))=some ((((),imax e.From x.Entry.From),(x.Entry.ID,(x.Entry.dw,(x.Entry.bP,(x.Entry.dn,(imax e.From x.Entry.From,(mD x l,(e.aB,(e.Vec,e.aQ))))))))),(0:Int)):=by refine(awS n b e (x::l)).trans ?_;refine bs xu (bs (Bn (bZ hll hb)) (bW (hc.trans hq) (bs (WE ..) rfl)))
   refine Xm g1 (zV g2 (bW rfl ?_));have hone:(oQ (some (gN (imax e.From x.Entry.From))) b.Rows e.ID e.aB).length<=1:=by obtain⟨a,z,hp⟩:=hI.path e.ID;obtain⟨K,V,p,q,w1,_⟩:=Cut.before (f:=imax e.From x.Entry.From) (c:=e.aB) hp;exact adl w1
   refine bs (azv (ent:=ent) (f:=imax e.From x.Entry.From) (x:=⟨x.Entry.ID,x.Entry.dw,x.Entry.bP,x.Entry.dn,imax e.From x.Entry.From,mD x l,e.aB,e.Vec,e.aQ⟩) hb hdl hn hv hone (hE _ rfl rfl)) rfl
  ·have g1:J8 n (b,(e,x::l))=some (((),()),(9:Int)):=by refine(ajZ n b e (x::l)).trans ?_;refine bs xu (bs (Bn (bZ hll hb)) (bJ (hc.trans hq) rfl))
   exact zV g1 (bJ rfl rfl)
 ·
  have k1:(e.Kind==(1:Int))=false:=ko
  have k2:(e.Kind==(2:Int))=false:=ko
  have k3:(e.Kind==(3:Int))=true:=ko
  have k4:(e.Kind==(4:Int))=false:=ko
  have k5:(e.Kind==(5:Int))=false:=ko
  have n1:(e.Kind !=(1:Int))=true:=ko
  have n5:(e.Kind !=(5:Int))=true:=ko
  simp only[k1,k2,k3,k4,k5,n1,n5,cond_true,cond_false];cases L with
  |nil=>rfl|cons x l=>
  refine bW (by rw[beq_eq_false_iff_ne.2 tH];rfl) ?_;dsimp only;cases hf:decide (e.From<0)
  ·have hc:decide (e.From>=((x::l).getLast (List.cons_ne_nil x l)).Entry.To)=decide (mD x l<=e.From):=rfl
   cases hq:decide (mD x l<=e.From)
   ·have g1:Ga n (b,(e,x::l))=none:=by refine(acK n b e (x::l)).trans ?_;exact bJ CB (bs (Bn (bZ hll hb)) (bW (hc.trans hq) (bs (WE ..) rfl)))
    have g2:OP n (b,(e,x::l))=some ((((),e.From),()),(0:Int)):=(by refine(awT n b e (x::l)).trans ?_;exact bJ CB (bs (Bn (bZ hll hb)) (bW (hc.trans hq) (bs (WE ..) rfl))));refine Xm g1 (zV g2 (bW rfl ?_));have hone:(oQ (some (gN e.From)) b.Rows e.ID e.aB).length<=1:=(by obtain⟨a,z,hp⟩:=hI.path e.ID;obtain⟨K,V,p,q,w1,_⟩:=Cut.before (f:=e.From) (c:=e.aB) hp;exact adl w1);exact bs (azw (ent:=ent) (f:=e.From) hb hdl hn hv hone) rfl
   ·have g1:Ga n (b,(e,x::l))=some (((),()),(9:Int)):=by refine(acK n b e (x::l)).trans ?_;exact bJ CB (bs (Bn (bZ hll hb)) (bJ (hc.trans hq) rfl))
    exact zV g1 (bJ rfl rfl)
  ·have g1:Ga n (b,(e,x::l))=some (((),()),(9:Int)):=by refine(acK n b e (x::l)).trans ?_;exact bW CB rfl
   exact zV g1 (bJ rfl rfl)
 ·
  have k1:(e.Kind==(1:Int))=false:=ko
  have k2:(e.Kind==(2:Int))=false:=ko
  have k3:(e.Kind==(3:Int))=false:=ko
  have k4:(e.Kind==(4:Int))=true:=ko
  have k5:(e.Kind==(5:Int))=false:=ko
  have n1:(e.Kind !=(1:Int))=true:=ko
  have n5:(e.Kind !=(5:Int))=true:=ko
  simp only[k1,k2,k3,k4,k5,n1,n5,cond_true,cond_false];cases L with
  |nil=>rfl|cons x l=>
  refine bW (by rw[beq_eq_false_iff_ne.2 tH];rfl) ?_;dsimp only;have hc:(bif decide (x.Entry.From<=e.Day) then true else x.Entry.From==e.Until)=(decide (x.Entry.From<=e.Day)||x.Entry.From==e.Until):=by cases decide (x.Entry.From<=e.Day)<;>rfl
  cases hq:(decide (x.Entry.From<=e.Day)||x.Entry.From==e.Until)
  ·cases hf:decide (e.Until<e.Day)
   ·have hc2:decide (e.Until>=((x::l).getLast (List.cons_ne_nil x l)).Entry.To)=decide (mD x l<=e.Until):=rfl
    cases hz:decide (mD x l<=e.Until)
    ·have g1:Eb n (b,(e,x::l))=none:=by refine(WG n b e (x::l)).trans ?_;exact bs xu (bW (hc.trans hq) (bJ CB (bs (Bn (bZ hll hb)) (bW (hc2.trans hz) rfl))))
     refine Xm g1 (zV (v:=((((),(x.Entry.From,(e.Kind,(e.aB,(e.Day,(e.ID,(e.bP,(e.Until,(e.From,(e.Vec,(e.aQ,(e.aO.b0,(e.aO.b1,(e.aO.b2,(e.aO.b3,(e.aO.b4,(e.aO.b5,(e.aO.b6,(e.aO.b7,(e.aO.b8,(e.aO.b9,(e.aO.b10,(e.aO.b11,(e.aO.b12,(e.aO.b13,(e.aO.b14,e.aO.b15)))))))))))))))))))))))))),()),(0:Int))) ?_ (bW rfl ?_))
     ·refine(awU n b e (x::l)).trans ?_
      exact bs xu (bW (hc.trans hq) (bJ CB (bs (Bn (bZ hll hb)) (bW (hc2.trans hz) rfl))))
     ·have hone:(oQ (some (iH x.Entry.From e.Until)) b.Rows e.ID e.aB).length<=1:=by obtain⟨a,z,hp⟩:=hI.path e.ID;rw[hL] at hp;have hx:x.Entry.From=a:=hp.1;subst hx;have hne:x.Entry.From≠e.Until:=(by simp only[kP,beq_eq_false_iff_ne] at hq;exact hq.2);have hzl:e.Until<z:=(by have:=of_decide_eq_false hz;rw[ac4 hp] at this;omega);obtain⟨K,V,p,w1,_⟩:=Cut.KP (u:=e.Until) (c:=e.aB) hp hne hzl;exact adl RA
      exact bs (azx (ent:=ent) (o:=x.Entry.From) (v:=e) hb hdl hn hv hone) rfl
    ·have g1:Eb n (b,(e,x::l))=some (((),()),(9:Int)):=by refine(WG n b e (x::l)).trans ?_;exact bs xu (bW (hc.trans hq) (bJ CB (bs (Bn (bZ hll hb)) (bJ (hc2.trans hz) rfl))))
     exact zV g1 (bJ rfl rfl)
   ·have g1:Eb n (b,(e,x::l))=some (((),()),(9:Int)):=by refine(WG n b e (x::l)).trans ?_;exact bs xu (bW (hc.trans hq) (bW CB rfl))
    exact zV g1 (bJ rfl rfl)
  ·have g1:Eb n (b,(e,x::l))=some (((),()),(4:Int)):=by refine(WG n b e (x::l)).trans ?_;exact bs xu (bJ (hc.trans hq) rfl)
   exact zV g1 (bJ rfl rfl)
 ·
  have k1:(e.Kind==(1:Int))=false:=ko
  have k5:(e.Kind==(5:Int))=true:=ko
  have n5:(e.Kind !=(5:Int))=false:=ko
  simp only[k1,k5,n5,cond_true,cond_false];refine bW (by cases (bif ((L.length:Int)==(0:Int)) then (e.Kind !=(1:Int)) else false)<;>rfl) ?_;refine bs (awV ..) (bW rfl ?_);exact bs (azt (ent:=ent) hb hdl hn hv) rfl
end
theorem adn {d:fq}{Et:Nat->List eF->Int->Option (List eF)}{L:List Row}(hs:∀m (i:Nat) (acc:List eF) r,L[i]? =some r->acc.length=i->Et (m+1) acc (i:Int)=Et m (acc++[⟨(d r.Entry).1,(d r.Entry).2⟩]) ((i+1:Nat):Int))(hf:∀m acc,Et (m+1) acc (L.length:Int)=some acc){n:Nat}(hn:L.length<n):Et n [] (0:Int)=some (pY d L):=by
 have key:∀(l P:List Row)(m:Nat),L=P++l->l.length<m->Et m (pY d P) (P.length:Int)=some (pY d L):=by
  intro l;induction l with
  |nil=>intro P m hl hm;obtain⟨m,rfl⟩:∃m',m=m'+1:=⟨m-1,ah⟩;rw[lF] at hl;rw[<-hl];exact hf _ _
  |cons r l ih=>
   intro P m hl hm;obtain⟨m,rfl⟩:∃m',m=m'+1:=⟨m-1,ah⟩;rw[List.length_cons] at hm;rw[hs m P.length (pY d P) r (by rw[hl];simp) (by unfold pY;rw[jS])];have:=ih (P++[r]) m (by rw[hl];simp) ah;rw[bE] at this;have e:pY d (P++[r])=pY d P++[⟨(d r.Entry).1,(d r.Entry).2⟩]:=by unfold pY;rw[oV];rfl
   rw[e] at this;exact this
 exact key L [] n rfl hn
section
variable {n:Nat}{fit:List Int->List Attr->Int}{b:Book}{e:Event}
theorem ado {x:Row}{l:List Row}(h:(x::l).length<=65536):Eh n (x::l)=some (mD x l):=by exact(ax2 n (x::l)).trans (bs (Bn h) rfl)
theorem azO {l:List Row}{id:Int}(h:l.any (ig id)=false):bO l id=0:=by
 unfold bO;rw[filter_none fun r hr=>?_]
 ·rfl
 ·have:=List.any_eq_false.1 h r hr
  simpa using this
theorem alf {more:Entry}(hn:2^20<n):rP n b e [] [] more n (bO b.Rows e.ID,(b.Rows,([],(0:Int))))=some (bO b.Rows e.ID+((dN none b.Rows e.ID e.aB).length:Int),(jC none b.Rows e.ID e.aB,fD (bO b.Rows e.ID) (dN none b.Rows e.ID e.aB))):=by obtain⟨m,rfl⟩:∃m',n=m'+1:=⟨n-1,ah⟩;rw[acO];simp[dN,jC,fD]
theorem adp {d:fq}{more:Entry}{K V L:List Row}{a z:Int}(hn:2^20<n)(hI:Inv fit b)(hc:e.aB=b.aB+1)(hL:gM b.Rows e.ID=L)(hp:Path a L z)(hcut:Cut d e.aB L K V):rP n b e L (pY d L) more n (bO b.Rows e.ID,(b.Rows,([],(0:Int))))=some (bO b.Rows e.ID+((dN (some d) b.Rows e.ID e.aB).length:Int),(jC (some d) b.Rows e.ID e.aB,fD (bO b.Rows e.ID) (dN (some d) b.Rows e.ID e.aB))):=by
 have hr:=hI.rows;have h0:=hI.com;have hv0:=KO b.Rows e.ID;have hv1:bO b.Rows e.ID<=(b.Rows.length:Int):=QF ah hI.ver;have hll:=Xn b.Rows e.ID;rw[hL] at hll;have:=ak6 (b:=b) (e:=e) (d:=d) (more:=more) (L:=L) hn ah L [] n (bO b.Rows e.ID) b.Rows [] rfl ah hr aC hv0 ah;have hm:dN (some d) b.Rows e.ID e.aB=V:=Xh (by rw[hL];exact hcut);rw[List.nil_append,hcut.ac2,<-hm] at this;refine this.trans ?_;have hd:rQ d e.ID e.aB L b.Rows=b.Rows.map (lC d e.ID e.aB):=by rw[<-hL];exact azy ah (fun r hr=>by have:=hI.born r hr;omega) (by rw[hL];exact hp)
 rw[hd];rfl
theorem azP (hI:Inv fit b)(hdl:b.dL.length<=2^30)(hn:2^20<n)(hE:∀x:Entry,x.Vec=e.Vec->x.aQ=e.aQ->Bc n (b.aN,x)=some (nk fit x)):PK n (b,e)=some (Es (bif b.Rows.any (ig e.ID) then (b,6) else jV (nk fit) none (some ⟨e.ID,0,e.bP,e.Day,e.Until,1048577,e.aB,e.Vec,e.aQ⟩) b e)):=by
 have hr:=hI.rows;rw[ax0];refine bs (azj hr hn) ?_;cases ha:b.Rows.any (ig e.ID);case true=>rfl
 have hv:=azO ha;rw[cond_false,cond_false];refine bs (hE _ rfl rfl) ?_;cases hz:(nk fit (⟨e.ID,1,e.bP,e.Day,e.Until,1048577,e.aB,e.Vec,e.aQ⟩:Entry) !=0)
 ·have h0:nk fit (⟨e.ID,1,e.bP,e.Day,e.Until,1048577,e.aB,e.Vec,e.aQ⟩:Entry)=0:=by simpa using hz
  have hid:=(acY.1 h0).id;have aBR:1<=e.ID:=hid;rw[cond_false];have:=ak8 (n:=n) (ent:=nk fit) (b:=b) (e:=e) (d:=none) (L:=[]) (to:=[]) (more:=⟨e.ID,1,e.bP,e.Day,e.Until,1048577,e.aB,e.Vec,e.aQ⟩) hr hdl hn (by rw[hv];decide) (by show e.ID≠0;omega) (alf hn) (hE _ rfl rfl);exact bs this rfl
 ·rw[cond_true]
  have hz':nk fit (⟨e.ID,1,e.bP,e.Day,e.Until,1048577,e.aB,e.Vec,e.aQ⟩:Entry)≠0:=by simpa using hz
  unfold jV;dsimp only[Xc];have e1:jY (bO b.Rows e.ID+((dN none b.Rows e.ID e.aB).length:Int)+1) (⟨e.ID,0,e.bP,e.Day,e.Until,1048577,e.aB,e.Vec,e.aQ⟩:Entry)=⟨e.ID,1,e.bP,e.Day,e.Until,1048577,e.aB,e.Vec,e.aQ⟩:=by rw[hv];rfl
  rw[e1,hz];rfl
theorem azQ (hI:Inv fit b)(hdl:b.dL.length<=2^30)(hn:2^20<n)(hE:∀x:Entry,x.Vec=e.Vec->x.aQ=e.aQ->Bc n (b.aN,x)=some (nk fit x)):Gj n (b,e)=some (Es (ug (nk fit) b e)):=by
 have hr:=hI.rows;have hc0:=hI.com;have hc1:=hI.QJ;rw[ax6,So.wr (i:=b.aB+1) ah ah];unfold ug;cases h1:(bif (bif (bif e.aB !=b.aB+1 then true else decide (e.aB>1073741824)) then true else decide (e.Day<b.Day)) then true else decide (e.Day>1048576));case true=>rfl
 rw[cond_false,cond_false];have hcom:e.aB=b.aB+1:=by
  by_cases c:e.aB=b.aB+1
  ·exact c
  ·rw[bne_iff_ne.2 c] at h1;cases h1
 have hll:=Xn b.Rows e.ID;have hlive:=akW (n:=n) (b:=b) (id:=e.ID) hr hn;by_cases k1:e.Kind=1
 ·have e1:(e.Kind==(1:Int))=true:=by rw[k1];rfl
  have e2:(decide (e.Kind<1)||decide (e.Kind>5))=false:=by rw[k1];rfl
  rw[e1,e2,cond_true,cond_false,cond_true];exact bs (azP hI hdl hn hE) rfl
 have e1:(e.Kind==(1:Int))=false:=by simpa using k1
 rw[e1,cond_false];by_cases k5:e.Kind=5
 ·have e5:(e.Kind==(5:Int))=true:=by rw[k5];rfl
  have e2:(decide (e.Kind<1)||decide (e.Kind>5))=false:=by rw[k5];rfl
  rw[e5,e2,cond_true,cond_false,cond_false,cond_true];exact bs (ada (ent:=nk fit) (d:=none) hr hdl hn rfl (alf hn)) rfl
 have e5:(e.Kind==(5:Int))=false:=by simpa using k5
 rw[e5,cond_false];generalize hL:gM b.Rows e.ID=L at hll hlive;by_cases k2:e.Kind=2
 ·have e2:(e.Kind==(2:Int))=true:=by rw[k2];rfl
  have er:(decide (e.Kind<1)||decide (e.Kind>5))=false:=by rw[k2];rfl
  rw[e2,er];simp only[cond_true,cond_false];refine bs hlive ?_;cases L with
  |nil=>rfl|cons x l=>
  refine bW (beq_eq_false_iff_ne.2 tH) ?_;dsimp only;obtain⟨a,z,hp⟩:=hI.path e.ID;rw[hL] at hp;have hx:x.Entry.From=a:=hp.1;subst hx;obtain⟨K,V,p,q,w1,_⟩:=Cut.before (f:=imax e.From x.Entry.From) (c:=e.aB) hp;have hend:=ado (n:=n) (bZ hll hr);have hxm:x∈gM b.Rows e.ID:=by rw[hL];exact fE ..
  have aBS:1<=x.Entry.ID:=(hI.ent x (QG.1 hxm).1).id;have azR:Gg n (b,(e,x::l))=some (Es (bif decide (e.From<0)||decide (mD x l<=imax e.From x.Entry.From) then (b,9) else jV (nk fit) (some (gN (imax e.From x.Entry.From))) (some ⟨x.Entry.ID,x.Entry.dw,x.Entry.bP,x.Entry.dn,imax e.From x.Entry.From,mD x l,e.aB,e.Vec,e.aQ⟩) b e)):=by
   refine(ax3 n b e (x::l)).trans ?_;refine bs xu ?_;cases hf:decide (e.From<0)
   ·refine bs (a:=mD x l) hend ?_
    cases hz:decide (mD x l<=imax e.From x.Entry.From)
    ·refine bW rfl ?_
     have hto:KL n b e (x::l) x n ([],(0:Int))=some (pY (gN (imax e.From x.Entry.From)) (x::l)):=by
      refine adn (Et:=fun m acc i=>KL n b e (x::l) x m (acc,i)) (fun m i acc r hr' ha=>?_) (fun m acc=>?_) ah
      ·have hlt:=qL hr'
       rw[aks,ku hr',cond_true];refine bs (bH hr') ?_;rw[jd ah];exact bJ (qM rT ah) rfl
      ·rw[aks,zP];rfl
     refine bs hto (bs xu (bs hend ?_));exact bs (ak8 (ent:=nk fit) (d:=some (gN (imax e.From x.Entry.From))) hr hdl hn (by have:=QF (l:=b.Rows) (id:=e.ID) (k:=(b.Rows.length:Int)) ah hI.ver;omega) (by show x.Entry.ID≠0;omega) (adp hn hI hcom hL hp w1) (hE _ rfl rfl)) rfl
    ·exact bJ rfl rfl
   ·exact bs (a:=(0:Int)) rfl (bJ rfl rfl)
  exact bs azR rfl
 have e2:(e.Kind==(2:Int))=false:=RF
 rw[e2,cond_false];by_cases k3:e.Kind=3
 ·have e3:(e.Kind==(3:Int))=true:=by rw[k3];rfl
  have er:(decide (e.Kind<1)||decide (e.Kind>5))=false:=by rw[k3];rfl
  rw[e3,er];simp only[cond_true,cond_false];refine bs hlive ?_;cases L with
  |nil=>rfl|cons x l=>
  refine bW (beq_eq_false_iff_ne.2 tH) ?_;dsimp only;obtain⟨a,z,hp⟩:=hI.path e.ID;rw[hL] at hp;obtain⟨K,V,p,q,w1,_⟩:=Cut.before (f:=e.From) (c:=e.aB) hp;have hend:=ado (n:=n) (bZ hll hr);have hwd:Gh n (b,(e,x::l))=some (Es (bif decide (e.From<0)||decide (mD x l<=e.From) then (b,9) else jV (nk fit) (some (gN e.From)) none b e)):=by
   refine(ax4 n b e (x::l)).trans ?_;cases hf:decide (e.From<0)
   ·refine bJ rfl (bs hend ?_)
    cases hz:decide (mD x l<=e.From)
    ·refine bW rfl ?_
     have hto:KM n b e (x::l) n ([],(0:Int))=some (pY (gN e.From) (x::l)):=by
      refine adn (Et:=fun m acc i=>KM n b e (x::l) m (acc,i)) (fun m i acc r hr' ha=>?_) (fun m acc=>?_) ah
      ·have hlt:=qL hr'
       rw[akt,ku hr',cond_true];refine bs (bH hr') ?_;rw[jd ah];exact bJ (qM rT ah) rfl
      ·rw[akt,zP];rfl
     refine bs hto ?_;exact bs (ada (ent:=nk fit) (d:=some (gN e.From)) hr hdl hn rfl (adp hn hI hcom hL hp w1)) rfl
    ·exact bJ rfl rfl
   ·exact bW rfl rfl
  exact bs hwd rfl
 have e3:(e.Kind==(3:Int))=false:=by simpa using k3
 rw[e3,cond_false];by_cases k4:e.Kind=4
 ·have e4:(e.Kind==(4:Int))=true:=by rw[k4];rfl
  have er:(decide (e.Kind<1)||decide (e.Kind>5))=false:=by rw[k4];rfl
  rw[e4,er];simp only[cond_true,cond_false];refine bs hlive ?_;cases L with
  |nil=>rfl|cons x l=>
  refine bW (beq_eq_false_iff_ne.2 tH) ?_;dsimp only;obtain⟨a,z,hp⟩:=hI.path e.ID;rw[hL] at hp;have hx:x.Entry.From=a:=hp.1;subst hx;have hend:=ado (n:=n) (bZ hll hr);have hem:Gi n (b,(e,x::l))=some (Es (bif decide (x.Entry.From<=e.Day)||x.Entry.From==e.Until then (b,4) else bif decide (e.Until<e.Day)||decide (mD x l<=e.Until) then (b,9) else jV (nk fit) (some (iH x.Entry.From e.Until)) none b e)):=by
   refine(ax5 n b e (x::l)).trans ?_;refine bs xu ?_;have hc:(bif decide (x.Entry.From<=e.Day) then true else x.Entry.From==e.Until)=(decide (x.Entry.From<=e.Day)||x.Entry.From==e.Until):=by cases decide (x.Entry.From<=e.Day)<;>rfl
   cases hq:(decide (x.Entry.From<=e.Day)||x.Entry.From==e.Until)
   ·refine bW (hc.trans hq) ?_
    have hne:x.Entry.From≠e.Until:=(by simp only[kP,beq_eq_false_iff_ne] at hq;exact hq.2);cases hf:decide (e.Until<e.Day)
    ·refine bJ rfl (bs hend ?_)
     cases hz:decide (mD x l<=e.Until)
     ·refine bW rfl ?_
      have hzl:e.Until<z:=(by have:=of_decide_eq_false hz;rw[ac4 hp] at this;omega);obtain⟨K,V,p,w1,_⟩:=Cut.KP (u:=e.Until) (c:=e.aB) hp hne hzl;have hto:Bg n b e (x::l) x n ([],(0:Int))=some (pY (iH x.Entry.From e.Until) (x::l)):=by
       refine adn (Et:=fun m acc i=>Bg n b e (x::l) x m (acc,i)) (fun m i acc r hr' ha=>?_) (fun m acc=>?_) ah
       ·have hlt:=qL hr'
        have hrm:r∈x::l:=Bv hr';obtain⟨_,hft,_⟩:=hp.all r hrm;show Bg n b e (x::l) x (m+1) (acc,(i:Int))=Bg n b e (x::l) x m (_,_);rw[aku,ku hr',cond_true];refine bs (bH hr') ?_;rw[jd ah];have rm:∀y:eF,dG (acc.length+[y].length) 16=true:=fun y=>qM rT ah;by_cases hi:i=0
        ·subst hi
         have hrx:r=x:=(by cases hr';rfl);subst hrx;have he:iH r.Entry.From e.Until r.Entry=(kG e.Until r.Entry.To,r.Entry.To):=(by unfold iH;rw[beq_self_eq_true];rfl);rw[he];by_cases hu:e.Until<r.Entry.From
         ·have:kG e.Until r.Entry.To=e.Until:=ayT ah
          rw[this];exact bJ (by rw[decide_eq_true hu];rfl) (bJ (rm _) rfl)
         ·have:imax r.Entry.From (kG e.Until r.Entry.To)=kG e.Until r.Entry.To:=by unfold imax kG;omega
          refine bW (by rw[decide_eq_false hu];rfl) (bJ (rm _) ?_);rw[this]
        ·have hlt2:x.Entry.From<r.Entry.From:=by have h0:0< (x::l).length:=tH;have hg:=oC.1 hr';obtain⟨hi2,hi3⟩:=hg;have:=List.pairwise_iff_getElem.1 hp.lt 0 i h0 hi2 ah;rw[hi3] at this;exact this
         have he:iH x.Entry.From e.Until r.Entry=(imax r.Entry.From (kG e.Until r.Entry.To),r.Entry.To):=(by unfold iH;rw[beq_eq_false_iff_ne.2 (show r.Entry.From≠x.Entry.From by omega)];rfl);rw[he];refine bW (by rw[beq_eq_false_iff_ne.2 (show ((i:Nat):Int)≠0 by omega)];rfl) (bJ (rm _) rfl)
       ·show Bg n b e (x::l) x (m+1) (acc,(((x::l).length:Nat):Int))=_
        rw[aku,zP];rfl
      refine bs hto ?_;exact bs (ada (ent:=nk fit) (d:=some (iH x.Entry.From e.Until)) hr hdl hn rfl (adp hn hI hcom hL hp w1)) rfl
     ·exact bJ rfl rfl
    ·exact bW rfl rfl
   ·exact bJ (hc.trans hq) rfl
  exact bs hem rfl
 have e4:(e.Kind==(4:Int))=false:=by simpa using k4
 have er:(decide (e.Kind<1)||decide (e.Kind>5))=true:=by rw[qP,decide_eq_true_iff,decide_eq_true_iff];omega
 rw[e4,er];rfl
end
def E1:Env:={P:=Tryz.prog,glob:=JC,imp:=fun f=>Oc f [153,187,197],aj:=fun f=>Oc f [99],qV:=fun _=>none,own:=fun _ _=>false,LB:=fun _=>false,LC:=fun _=>false}
theorem GJ:kX E1:=⟨aaT,fun f g h=>bC,aaS,fun g cs h=>bC,fun f g h=>bC⟩
def xw (l:List Nat):Code:=(iG Tryz.f99.body l).getD .skip
def QU:Code->Array Oper
 |.region _ o _=>o|_=> #[]
def adq:Array Oper:=QU (xw [1,1,1,1,0,0])
def alg:Array Oper:=QU (xw [1,1,1,1,0,1,0,0,0])
def adr:Array Oper:=QU (xw [1,1,1,1,0,1,0,0,1,1,0,0])
def ads:Code:=xw [1,1,1,1,0,1,0,0,1,1,0,1]
def alh:Code:=xw [1,1,1,1,1]
theorem azS:Tryz.f99.body=some (.seq (xw [0]) (.seq (xw [1,0]) (.seq (xw [1,1,0]) (.seq (xw [1,1,1,0]) (.seq (.seq (.region 10 adq false) (.block 2 (.loop (.seq (.region 11 alg false) (.seq (.cond (.tmp 54) .skip (.exit 2)) (.block 3 (.seq (.region 12 adr false) ads))))))) alh))))):=aA
def run (c:Code)(x:Option (Fr×au)):Option (Fr×au):=x.bind fun y=>match fB E1 (dX E1 90) c y.1 y.2 with
 |some (.normal,fr,σ)=>some (fr,σ)|_=>none
theorem Xo {c:Code}{x:Option (Fr×au)}{y:Fr×au}(h:run c x=some y):∃z,x=some z/\fB E1 (dX E1 90) c z.1 z.2=some (.normal,y.1,y.2):=by
 obtain⟨z,hz,h⟩:=iR.1 h;refine⟨z,hz,?_⟩;split at h
 ·rename_i e;cases h;exact e
 ·cases h
def PA:Option (Fr×au):=run (xw [1,1,1,0]) (run (xw [1,1,0]) (run (xw [1,0]) (run (xw [0]) (some ({d:=1,aj:=E1.aj 99,tm:=fun i=>UM.getD i aK},au.init)))))
def PB:Option (Fr×au):=PA.bind fun x=>opsL E1 (dX E1 90) adq.toList x.2.next [0] x.1 {x.2 with next:=x.2.next+2}
def Xp:List V:=[.int .i64 1,.int .i64 2]
def Xq:List V:=[iB.v ⟨1,3,2⟩,iB.v ⟨2,1,1⟩]
def Xr (x:Fr×au):Option (List V×List V):=match x.1.tm 51 with
 |.dJ L s=>match x.2.obj L with
  |some (s',.map ks vs)=>bif Nat.beq s s' then some (ks,vs) else none|_=>none
 |_=>none
theorem adt:PB.bind Xr=some (Xp,Xq):=aA
def Xt (p:Value)(x:Fr×au):Option (Fr×au):=match x.1.tm 51 with
 |.dJ L _=>some (x.1.put (some 52) (.raw p),x.2.eG L)|_=>none
def st1 (kv:V×V)(x:Fr×au):Option (Fr×au):=opsL E1 (dX E1 90) adr.toList (x.2.next+2) (List.range' 1 3) (((x.1.put (some 53) (.bq [.bool true,kv.1,kv.2])).put (some 54) (.bool true)).put (some 55) (.bq [kv.1,kv.2])) {x.2 with next:=x.2.next+2+4}
def st2 (x:Fr×au):Option (Fr×au):=match fB E1 (dX E1 90) ads x.1 x.2 with
 |some (.normal,fr,σ)=>some (fr,σ)|_=>none
def j4 (l:List (V×V))(x:Fr×au):Option (Fr×au):=match l with
 | []=>some x|kv::l=>(st1 kv x).bind fun y=>(st2 y).bind fun z=>j4 l z
def tC:V×V:=(.int .i64 1,iB.v ⟨1,3,2⟩)
def rR:V×V:=(.int .i64 2,iB.v ⟨2,1,1⟩)
def Eu (l:List (V×V))(kv:V×V)(p:Value):Option (V×V):=((PB.bind (Xt p)).bind (j4 l)).bind fun x=>(st1 kv x).bind fun y=>(st2 y).bind fun z=>some (y.1.tm 52,z.1.tm 52)
theorem azT (p:Value):Eu [] tC p=some (.raw p,.raw p):=aA
theorem azU (p:Value):Eu [] rR p=some (.raw p,.raw p):=aA
theorem azV (p:Value):Eu [tC] tC p=some (.raw p,.raw p):=aA
theorem azW (p:Value):Eu [tC] rR p=some (.raw p,.raw p):=aA
theorem azX (p:Value):Eu [rR] tC p=some (.raw p,.raw p):=aA
theorem azY (p:Value):Eu [rR] rR p=some (.raw p,.raw p):=aA
def fin (l:List (V×V))(p:Value):Option V:=((PB.bind (Xt p)).bind (j4 l)).bind fun x=>match fB E1 (dX E1 90) alh ((x.1.put (some 53) (.bq [.bool false])).put (some 54) (.bool false)) {x.2 with next:=x.2.next+2} with
 |some (.ret,fr,σ)=>(Tryz.f99.results.toList.mapM (lJ E1 fr σ)).bind fun vs=>bn 20 σ (JD vs)
 |_=>none
theorem azZ (p:Value):fin [tC,rR] p=some JH:=aA
theorem az0 (p:Value):fin [rR,tC] p=some JH:=aA
def Ct (o:Oper):Option Tmp×Op×Option (Nat×Bool):=(o.dst,o.op,o.guard)
theorem opAt {ops:List Oper}{i:Nat}{sh:List (Option Tmp×Op×Option (Nat×Bool))}(hs:ops.map Ct=sh){d:Option Tmp}{p:Op}{g:Option (Nat×Bool)}(hi:sh[i]? =some (d,p,g)):∃ty pos jh,ops[i]? =some ⟨d,p,ty,pos,jh,g⟩:=by
 have h1:(ops[i]?).map Ct=some (d,p,g):=by rw[<-List.getElem?_map,hs];exact hi
 obtain⟨o,ho,h2⟩:=aZ.1 h1;obtain⟨d',p',ty,pos,jh,g'⟩:=o;simp only[Ct,aP] at h2;obtain⟨rfl,rfl,rfl⟩:=h2;exact⟨ty,pos,jh,ho⟩
theorem QV {ops:Array Oper}{i:Nat}{o:Oper}(h:ops.toList[i]? =some o):ops[i]? =some o:=by rw[<-Array.getElem?_toList];exact h
theorem QW {ops:Array Oper}{sh:List (Option Tmp×Op×Option (Nat×Bool))}(h:ops.toList.map Ct=sh):ops.size=sh.length:=by have:=congrArg List.length h;rw[jS] at this;exact this
theorem ali:adq.toList.map Ct=[(some 51,.move (.tmp 7),none),(some 52,.range 190 (.tmp 51),none)]:=aA
theorem alj:alg.toList.map Ct=[(some 53,.next (.tmp 52) false,none),(some 54,.extract (.tmp 53) 0,none)]:=aA
theorem alk:adr.toList.map Ct=[(some 55,.entry (.tmp 52),none),(some 56,.extract (.tmp 55) 1,none),(some 14,.alloc 96,none),(none,.store 96 (.tmp 14) (.tmp 56),none)]:=aA
theorem az1:Tryz.prog.underlying 190=some (.map 3 96):=aA
theorem az2 (l:List (V×V))(kv:V×V):∀x,j4 (l++[kv]) x=(j4 l x).bind fun z=>(st1 kv z).bind fun y=>st2 y:=by
 induction l with
 |nil=>intro x;show (st1 kv x).bind (fun y=>(st2 y).bind fun z=>some z)=(some x).bind _;rw[Option.bind_some];congr 1;funext y;cases st2 y<;>rfl
 |cons a l ih=>intro x;show (st1 a x).bind (fun y=>(st2 y).bind fun z=>j4 (l++[kv]) z)=((st1 a x).bind fun y=>(st2 y).bind fun z=>j4 l z).bind _;rw[Option.bind_assoc];congr 1;funext y;rw[Option.bind_assoc];congr 1;funext z;exact ih z
def kvs (l:List (V×V)):Prop:=∀x∈l,x=tC\/x=rR
theorem az3 {l:List (V×V)}(hl:l.length<2)(hk:kvs l){kv:V×V}(hv:kv=tC\/kv=rR)(p:Value):Eu l kv p=some (.raw p,.raw p):=by
 match l,hl,hk with
 | [],_,_=>
   rcases hv with rfl|rfl
   ·exact azT p
   ·exact azU p
 | [x],_,hk=>
   rcases hk x (fE ..) with rfl|rfl
   ·rcases hv with rfl|rfl
    ·exact azV p
    ·exact azW p
   ·rcases hv with rfl|rfl
    ·exact azX p
    ·exact azY p
 |_::_::_,hl,_=>exact absurd hl aC
theorem az4 {l:List (V×V)}(hp:l.Perm [tC,rR])(p:Value):fin l p=some JH:=by
 have hlen:=hp.length_eq
 match l,hlen with
 | [x,y],_=>
   have hx:x=tC\/x=rR:=by simpa using hp.subset (fE ..)
   rcases hx with rfl|rfl
   ·have:=hp.cons_inv
    rw[List.singleton_perm_singleton.1 this];exact azZ p
   ·have h2:(rR::[y]).Perm (rR::[tC]):=hp.trans (List.Perm.swap ..)
    rw[List.singleton_perm_singleton.1 h2.cons_inv];exact az0 p
theorem az5:qY E1 99 UM JH:=by
 refine aiJ (fn:=Tryz.f99) Tryz.func99 azS (of_decide_eq_true aA) aA ?_;obtain⟨⟨ks,vs⟩,hq⟩:∃z,PB.bind Xr=some z:=⟨_,adt⟩;obtain⟨⟨kH,gZ⟩,hB,_⟩:=iR.1 adt;obtain⟨⟨aBT,aBU⟩,hA,hB0⟩:=iR.1 hB;have hm:=adt;have hc:=fun {l:List (V×V)} (hl:l.length<2) (hk:kvs l) {kv:V×V} (hv:kv=tC\/kv=rR) (p:Value)=>az3 hl hk hv p;have hf:=fun {l:List (V×V)} (hp:l.Perm [tC,rR]) (p:Value)=>az4 hp p;unfold Eu at hc;unfold fin at hf;rw[hB,Option.bind_some] at hm;simp only[hB,Option.bind_some] at hc hf;obtain⟨⟨qo,σ3⟩,h3,g3⟩:=Xo hA;obtain⟨⟨fT,σ2⟩,h2,g2⟩:=Xo h3;obtain⟨⟨bT,σ1⟩,h1,g1⟩:=Xo h2;obtain⟨⟨aBV,aBW⟩,hS,gS⟩:=Xo h1;cases hS;refine dM.seq (dM.cw GJ ⟨90,.normal,_,_,gS,?_⟩);refine dM.seq (dM.cw GJ ⟨90,.normal,_,_,g1,?_⟩);refine dM.seq (dM.cw GJ ⟨90,.normal,_,_,g2,?_⟩);refine dM.seq (dM.cw GJ ⟨90,.normal,_,_,g3,?_⟩);dsimp only;have alm:=QW ali;have az6:=QW alj;have aln:=QW alk;obtain⟨az7,az8,az9,ho0⟩:=opAt (i:=1) ali rfl;obtain⟨aAa,pos1,aAb,ho1⟩:=opAt (i:=0) alj rfl;obtain⟨aiM,pos2,aBX,ho2⟩:=opAt (i:=0) alk rfl;obtain⟨L,s,hL⟩:∃L s,kH.tm 51= .dJ L s:=by
  unfold Xr at hm;dsimp only at hm;split at hm
  ·rename_i L s h;exact⟨L,s,h⟩
  ·cases hm
 have gX:gZ.obj L=some (s,.map Xp Xq):=by
  unfold Xr at hm;dsimp only at hm;rw[hL] at hm;dsimp only at hm;split at hm
  ·rename_i s' ks' vs' h
   cases hb:Nat.beq s s'
   ·rw[hb] at hm;cases hm
   ·rw[hb] at hm
    have:=xE hb;subst this;cases hm;exact h
  ·cases hm
 have aAc:∀p,Xt p (kH,gZ)=some (kH.put (some 52) (.raw p),gZ.eG L):=fun p=>by unfold Xt;dsimp only;rw[hL]
 simp only[aAc,Option.bind_some] at hc hf;refine dM.seq (dM.rangeMap GJ (N:=90) (k0:=1) (m2:=3) (it:=52) (nx:=53) (more:=54) (pair:=55) (loc:=L) (st:=s) (ks:=Xp) (vs:=Xq) (t:=190) (kt:=3) (et:=96) (x:=.tmp 51) (kH:=kH) (gZ:=gZ)
  (J:=fun done fr σ=>kvs done/\∃p,j4 done (kH.put (some 52) (.raw p),gZ.eG L)=some (fr,σ)/\fr.tm 52= .raw p) ?_ alm (QV ho0) rfl rfl rfl hL gX az1 az6 (QV ho1) rfl rfl rfl ?_ aln (QV ho2) rfl rfl rfl ⟨eO,eO,eO⟩ ?_ ?_ ?_)
 ·rw[alm];exact hB0
 ·intro fr σ base b l
  kernel_rfl
 ·intro p
  exact⟨fun x hx=>CJ,p,rfl,(show upd kH.tm 52 (V.raw p) 52=V.raw p from upd_same _ _ _)⟩
 ·rintro done fr σ k v ⟨hk,p,hs,ht⟩ hmem hlt
  have hz:Xp.zip Xq=[tC,rR]:=rfl;rw[hz] at hmem hlt;have hv:(k,v)=tC\/(k,v)=rR:=by simpa using hmem
  have hcc:=hc (l:=done) hlt hk hv p;rw[hs,Option.bind_some] at hcc;obtain⟨⟨fT,σ2⟩,y1,hcc⟩:=iR.1 hcc;obtain⟨⟨qo,σ3⟩,y2,hcc⟩:=iR.1 hcc;have hcc:=lX hcc;have t2:fT.tm 52= .raw p:=congrArg Prod.fst hcc;have t3:qo.tm 52= .raw p:=congrArg Prod.snd hcc;refine⟨fT,σ2,?_,t2.trans ht.symm,?_⟩
  ·rw[aln];exact y1
  ·have g:fB E1 (dX E1 90) ads fT σ2=some (.normal,qo,σ3):=by
    unfold st2 at y2;dsimp only at y2;split at y2
    ·rename_i e;cases y2;exact e
    ·cases y2
   refine dM.cw GJ ⟨90,.normal,_,_,g,rfl,t3.trans ht.symm,?_,p,?_,t3⟩
   ·intro x hx
    rcases oW.1 hx with hx|hx
    ·exact hk x hx
    ·rw[iX.1 hx];exact hv
   ·rw[az2,hs,Option.bind_some,y1]
    exact y2
 ·rintro done fr σ ⟨hk,p,hs,ht⟩ hp
  have QX:=hf (l:=done) hp p;rw[hs,Option.bind_some] at QX;dsimp only at QX;split at QX
  ·rename_i fr' σ' e
   refine dM.cw GJ ⟨90,.ret,_,_,e,.inr rfl,?_⟩;obtain⟨vs',v1,v2⟩:=iR.1 QX;exact⟨vs',v1,v2⟩
  ·cases QX
theorem aAd:qY (vH exS zI) 13 [] (.bool true):=as2 az5
end Sh
end
section
namespace aY
open Go
section
variable {R:gY}{E:Env}{ρ:aT}{b:Nat}{st:aD R.T}{fr:Fr}{σ:au}
theorem aL.sub {st':aD R.T}(h:aL ρ b st fr σ)(hf:∀i v,look st'.fr i=some v->look st.fr i=some v)(ho:∀o x,look st'.ob o=some x->look st.ob o=some x):aL ρ b st' fr σ:=
 {h with fr:=fun i v hv=>h.fr i v (hf i v hv),ob:=fun o x hx=>h.ob o x (ho o x hx)}
theorem dM.typed (hR:rE R)(hE:kX E){n:Nat}{aj:Bool}{F:Nat->List (fM R)}{I:IR R}(hF:bg E F)(hI:kg E I){A:fU}{c:Code}(hw:qG E c=true){β:Type}{k:Ex->aD R.T->Option β}{x:β}(bK:ρ.aj.aj=aj)(h:gy E R n aj F I A c st k=some x)(hi:aL ρ σ.next st fr σ){Q:Ex->Fr->au->Prop}(hq:∀e fr' σ' ρ' st',aL ρ' σ'.next st' fr' σ'->Kp (j5 E c) (bD E c) st fr σ ρ st' fr' σ' ρ'->k e st'=some x->Q e fr' σ'):dM E c fr σ Q:=
 dM.cw hE ((sJ hR hF hI c hw β st k x fr σ ρ bK h hi).mono fun e fr' σ' ⟨ρ',st',h1,h2,h3⟩=>hq e fr' σ' ρ' st' h1 h2 h3)
end
end aY
end
