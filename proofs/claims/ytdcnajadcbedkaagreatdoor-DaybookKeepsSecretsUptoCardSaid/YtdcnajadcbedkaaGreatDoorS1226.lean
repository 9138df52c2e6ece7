/- Part of the proof of a law. -/
import Derived.ChangeCalls
import Derived.Test.YtdcnajadcbedkaaGreatDoorS1216
import Derived.Test.YtdcnajadcbedkaaGreatDoorS1224
import Derived.Test.YtdcnajadcbedkaaGreatDoorS1225
set_option linter.all false
section
open Go Aq
namespace So
variable {α:Type}
def sJ (key:α->Int) (bs:Nat) (L:List (List α)):Prop:=∀X∈L,X.length=bs/\eY key X
theorem sJ.len {key:α->Int} {bs:Nat}:∀{L:List (List α)},sJ key bs L->L.flatten.length=L.length*bs
 | [],_=>by simp
 |X::L,h=>by
  rw[List.flatten_cons,iP,sJ.len (fun Y hY=>h Y (adF _ hY)),(h X (adg ..)).1,List.length_cons,ajh];omega
theorem sJ.app {key:α->Int} {bs:Nat} {L:List (List α)} {X:List α} (h:sJ key bs L) (h1:X.length=bs) (h2:eY key X):sJ key bs (L++[X]):=fun Y hY=>by
 rcases agj.1 hY with hY|hY
 ·exact h Y hY
 ·rw[adu.1 hY];exact⟨h1,h2⟩
theorem adE (L:List (List α)) (X:List α):(L++[X]).flatten=L.flatten++X:=by simp
section
variable {key:α->Int} {n:Nat} {ins:Unit×Int×Int×(Unit×Unit)->List α->Option (PUnit×List α)} {sy:Unit×Int×Int×Int×(Unit×Unit)->List α->Option (PUnit×List α)}
 {L2:Int->Nat->(Int×Int)×List α->Option (Int×List α)} {L9:Int->Int->Nat->(Int×Int)×List α->Option (Int×List α)} {L7:Int->Nat->Int×List α->Option (PUnit×List α)}
 (hi:∀A W B:List α,(A++(W++B)).length<2^59->W.length+1<n->∃W',eY key W'/\dR key W' W/\W'.length=W.length/\ins ((),(A.length:Int),((A.length+W.length:Nat):Int),((),())) (A++(W++B))=some ((),A++(W'++B)))
 (hm:∀A U V B:List α,eY key U->eY key V->0<U.length->0<V.length->U.length+V.length<n->(A++(U++(V++B))).length<2^59->∃W,eY key W/\dR key W (U++V)/\W.length=U.length+V.length/\sy ((),(A.length:Int),((A.length+U.length:Nat):Int),((A.length+U.length+V.length:Nat):Int),((),())) (A++(U++(V++B)))=some ((),A++(W++B)))
 (h2:∀(x1:Int) (m:Nat) (x3:Int) (x4:Int) (x5:List α),L2 x1 (m+1) ((x3,x4),x5)=
   bif decide (x4<=x1) then
    (ins (((),(x3,(x4,((),()))))) x5).bind fun (r6:PUnit×List α)=>
    L2 x1 m (((x4,Go.IntKind.wrap .i64 (x4+((20:Int)))),r6.2))
   else
    some ((x3,x5)))
 (h7:∀(x1:Int) (m:Nat) (x9:Int) (x10:List α),L7 x1 (m+1) (x9,x10)=
   bif decide (x9<x1) then
    (L9 x1 x9 n ((((0:Int),Go.IntKind.wrap .i64 (((2:Int))*x9)),x10))).bind fun (jD:Int×List α)=>
    bif decide ((Go.IntKind.wrap .i64 (jD.1+x9))<x1) then
     (sy (((),(jD.1,(Go.IntKind.wrap .i64 (jD.1+x9),(x1,((),())))))) jD.2).bind fun (r16:PUnit×List α)=>
     L7 x1 m ((Go.IntKind.wrap .i64 (x9*((2:Int))),r16.2))
    else
     L7 x1 m ((Go.IntKind.wrap .i64 (x9*((2:Int))),jD.2))
   else
    some (((),x10)))
 (h9:∀(x1:Int) (x9:Int) (m:Nat) (bD:Int) (eH:Int) (Bb:List α),L9 x1 x9 (m+1) ((bD,eH),Bb)=
   bif decide (eH<=x1) then
    (sy (((),(bD,(Go.IntKind.wrap .i64 (bD+x9),(eH,((),())))))) Bb).bind fun (iJ:PUnit×List α)=>
    L9 x1 x9 m (((eH,Go.IntKind.wrap .i64 (eH+(Go.IntKind.wrap .i64 (((2:Int))*x9)))),iJ.2))
   else
    some ((bD,Bb)))
include hi hm h2 h7 h9
theorem st2 {N:Nat} (hN:N<2^58) (hn:N+1<n):∀(k:Nat) (L:List (List α)) (R:List α) (m:Nat),sJ key 20 L->R.length=k->(L.flatten++R).length=N->k<m->
 ∃L' R',sJ key 20 L'/\R'.length<20/\dR key (L'.flatten++R') (L.flatten++R)/\(L'.flatten++R').length=N/\L2 (N:Int) m (((L.flatten.length:Int),((L.flatten.length+20:Nat):Int)),L.flatten++R)=some ((L'.flatten.length:Int),L'.flatten++R'):=by
 intro k
 induction k using Nat.strongRecOn with
 |_ k ih=>
  intro L R m hL hR hl hk
  obtain⟨m,rfl⟩:∃m',m=m'+1:=⟨m-1,by omega⟩
  have hl':=hl
  rw[iP] at hl'
  rw[h2]
  by_cases hb:R.length<20
  ·exact⟨L,R,hL,hb,dR.refl _,hl,iF (decide_eq_false (by omega)) rfl⟩
  ·have hX:(R.take 20).length=20:=by rw[ads];omega
   obtain⟨W,w1,w2,w3,w4⟩:=hi L.flatten (R.take 20) (R.drop 20) (by rw[aga];omega) (by omega)
   have hY:(R.drop 20).length=R.length-20:=aft
   have hf:(L++[W]).flatten=L.flatten++W:=adE L W
   obtain⟨L',R',g1,g2,g3,g4,g5⟩:=ih (R.length-20) (by omega) (L++[W]) (R.drop 20) m (hL.app (w3.trans hX) w1) hY (by rw[hf,iP,iP];omega) (by omega)
   refine⟨L',R',g1,g2,g3.trans ?_,g4,iT (decide_eq_true (by omega)) (bd (a:=((),L.flatten++(W++R.drop 20))) ?_ ?_)⟩
   ·rw[hf,acF]
    refine(dR.refl _).app ?_
    have:=w2.app (dR.refl (key:=key) (R.drop 20))
    rw[aga] at this;exact this
   ·rw[aga,hX] at w4;exact w4
   ·rw[wr (by omega) (by omega)]
    rw[<-g5,hf,iP,w3,hX,acF]
    rfl
theorem st9 {N bs:Nat} (hbs:0<bs) (hbN:bs<N) (hN:N<2^57) (hn:N<n) {R:List α} (hR:R.length<bs) (hRs:eY key R):∀(k:Nat) (P L:List (List α)) (m:Nat),sJ key (2*bs) P->sJ key bs L->L.length=k->(P.flatten++(L.flatten++R)).length=N->k<m->
 ∃P' Q,sJ key (2*bs) P'/\Q.length<2*bs/\(Q.length<=bs->eY key Q)/\(bs<Q.length->∃X,Q=X++R/\X.length=bs/\eY key X)/\dR key (P'.flatten++Q) (P.flatten++(L.flatten++R))/\(P'.flatten++Q).length=N/\
  L9 (N:Int) (bs:Int) m (((P.flatten.length:Int),((P.flatten.length+2*bs:Nat):Int)),P.flatten++(L.flatten++R))=some ((P'.flatten.length:Int),P'.flatten++Q):=by
 intro k
 induction k using Nat.strongRecOn with
 |_ k ih=>
  intro P L m hP hL hk hl hm'
  obtain⟨m,rfl⟩:∃m',m=m'+1:=⟨m-1,by omega⟩
  have hl':=hl
  simp only[iP] at hl'
  rw[h9]
  match L,hL,hk,hl,hl' with
  | [],_,_,hl,hl'=>
    simp only[List.flatten_nil,List.length_nil,List.nil_append] at hl'⊢
    exact⟨P,R,hP,by omega,fun _=>hRs,fun h=>by omega,dR.refl _,by simpa using hl,iF (decide_eq_false (by omega)) rfl⟩
  | [X],hL,_,hl,hl'=>
    obtain⟨x1,x2⟩:=hL X (adg ..)
    have e:[X].flatten=X:=by simp
    rw[e] at hl hl'⊢
    refine⟨P,X++R,hP,by rw[iP];omega,fun h=> ?_,fun h=>⟨X,rfl,x1,x2⟩,dR.refl _,by rw[iP,iP];omega,iF (decide_eq_false (by omega)) rfl⟩
    have:R=[]:=adK (by rw[iP] at h;omega)
    rw[this,aeX];exact x2
  |X::Y::L,hL,hk,hl,hl'=>
   obtain⟨x1,x2⟩:=hL X (adg ..)
   obtain⟨y1,y2⟩:=hL Y (adF _ (adg ..))
   simp only[List.flatten_cons,acF,iP] at hl'⊢
   obtain⟨W,w1,w2,w3,w4⟩:=hm P.flatten X Y (L.flatten++R) x2 y2 (by omega) (by omega) (by omega) (by simp only[iP];omega)
   have hf:(P++[W]).flatten=P.flatten++W:=adE P W
   obtain⟨P',Q,g1,g2,g3,g4,g5,g6,g7⟩:=ih L.length (by simp only[List.length_cons] at hk;omega) (P++[W]) L m (hP.app (by omega) w1) (fun Z hZ=>hL Z (adF _ (adF _ hZ))) rfl (by rw[hf];simp only[iP];omega) (by simp only[List.length_cons] at hk;omega)
   refine⟨P',Q,g1,g2,g3,g4,g5.trans ?_,(by simpa using g6),iT (decide_eq_true (by omega)) (bd (a:=((),P.flatten++(W++(L.flatten++R)))) ?_ ?_)⟩
   ·rw[hf,acF]
    refine(dR.refl _).app ?_
    have:=w2.app (dR.refl (key:=key) (L.flatten++R))
    rw[acF] at this;exact this
   ·rw[wr (by omega) (by omega),show (P.flatten.length:Int)+(bs:Int)=((P.flatten.length+X.length:Nat):Int) by omega,show ((P.flatten.length+2*bs:Nat):Int)=((P.flatten.length+X.length+Y.length:Nat):Int) by omega]
    exact w4
   ·rw[show IntKind.wrap .i64 (((2:Int))*(bs:Int))=((2*bs:Nat):Int) by rw[wr (by omega) (by omega)];omega,wr (by omega) (by omega)]
    rw[<-g7,hf,iP,w3,acF,show X.length+Y.length=2*bs by omega]
    rfl
theorem st7 {N:Nat} (hN:N<2^57) (hn:N<n):∀(k bs:Nat) (L:List (List α)) (R:List α) (m:Nat),N-bs=k->0<bs->bs<2^58->sJ key bs L->R.length<bs->eY key R->(L.flatten++R).length=N->k<m->
 ∃D,eY key D/\dR key D (L.flatten++R)/\D.length=N/\L7 (N:Int) m ((bs:Int),L.flatten++R)=some ((),D):=by
 intro k
 induction k using Nat.strongRecOn with
 |_ k ih=>
  intro bs L R m hk hbs hbb hL hR hRs hl hm'
  obtain⟨m,rfl⟩:∃m',m=m'+1:=⟨m-1,by omega⟩
  rw[h7]
  by_cases hb:bs<N
  ·obtain⟨P',Q,g1,g2,g3,g4,g5,g6,g7⟩:=st9 hi hm h2 h7 h9 hbs hb hN hn hR hRs L.length [] L n (fun _ h=>by cases h) hL rfl (by simpa using hl) (by
    have h1:=hL.len
    rw[iP] at hl
    have:L.length<=L.length*bs:=Nat.le_mul_of_pos_right _ hbs
    omega)
   have e0:((([]:List (List α)).flatten.length:Nat):Int)=0:=rfl
   have e1:IntKind.wrap .i64 (((2:Int))*(bs:Int))=((([]:List (List α)).flatten.length+2*bs:Nat):Int):=by rw[wr (by omega) (by omega)];simp
   have e2:IntKind.wrap .i64 ((bs:Int)*((2:Int)))=((2*bs:Nat):Int):=by rw[wr (by omega) (by omega)];omega
   have g5':dR key (P'.flatten++Q) (L.flatten++R):=g5
   have hl6:=g6
   rw[iP] at hl6
   by_cases hq:bs<Q.length
   ·obtain⟨X,rfl,x1,x2⟩:=g4 hq
    clear g4 g3
    rw[iP] at hl6 hq g2
    obtain⟨W,w1,w2,w3,w4⟩:=hm P'.flatten X R [] x2 hRs (by omega) (by omega) (by omega) (by simp only[iP,List.length_nil];omega)
    obtain⟨D,d1,d2,d3,d4⟩:=ih (N-2*bs) (by omega) (2*bs) P' W m rfl (by omega) (by omega) g1 (by omega) w1 (by rw[iP];omega) (by omega)
    refine⟨D,d1,(d2.trans ((dR.refl _).app w2)).trans g5',d3,iT (decide_eq_true (by omega)) (bd (a:=((P'.flatten.length:Int),P'.flatten++(X++R))) (by rw[e1];exact g7) ?_)⟩
    rw[e2]
    refine iT (decide_eq_true (by show IntKind.wrap .i64 ((P'.flatten.length:Int)+(bs:Int))<_;rw[wr (by omega) (by omega)];omega)) (bd (a:=((),P'.flatten++W)) ?_ d4)
    show sy ((),((P'.flatten.length:Int),(IntKind.wrap .i64 ((P'.flatten.length:Int)+(bs:Int)),((N:Int),((),()))))) (P'.flatten++(X++R))=_
    rw[wr (by omega) (by omega),show (P'.flatten.length:Int)+(bs:Int)=((P'.flatten.length+X.length:Nat):Int) by omega,show (N:Int)=((P'.flatten.length+X.length+R.length:Nat):Int) by omega]
    simpa using w4
   ·clear g4
    have hqs:=g3 (by omega)
    clear g3
    obtain⟨D,d1,d2,d3,d4⟩:=ih (N-2*bs) (by omega) (2*bs) P' Q m rfl (by omega) (by omega) g1 g2 hqs g6 (by omega)
    refine⟨D,d1,d2.trans g5',d3,iT (decide_eq_true (by omega)) (bd (a:=((P'.flatten.length:Int),P'.flatten++Q)) (by rw[e1];exact g7) ?_)⟩
    rw[e2]
    exact iF (decide_eq_false (by show¬IntKind.wrap .i64 ((P'.flatten.length:Int)+(bs:Int))<_;rw[wr (by omega) (by omega)];omega)) d4
  ·refine⟨L.flatten++R, ?_,dR.refl _,hl,iF (decide_eq_false (by omega)) rfl⟩
   have h1:=hL.len
   have hl':=hl
   rw[iP] at hl'
   match L,hL,h1,hl' with
   | [],_,_,_=>simpa using hRs
   | [X],hL,h1,hl'=>
     have:R=[]:=adK (by simp only[List.length_cons,List.length_nil] at h1;omega)
     rw[this];simpa using (hL X (adg ..)).2
   |X::Y::L,_,h1,hl'=>
    exfalso
    simp only[List.length_cons] at h1
    have:2*bs<=(L.length+1+1)*bs:=aen _ (by omega)
    omega
variable {st:Unit×Int×(Unit×Unit)->List α->Option (PUnit×List α)}
 (hs:∀(x1:Int) (x2:List α),st (((),(x1,((),())))) (x2)=
   (L2 x1 n ((((0:Int),(20:Int)),x2))).bind fun (r7:Int×List α)=>
   (ins (((),(r7.1,(x1,((),()))))) r7.2).bind fun (r8:PUnit×List α)=>
   (L7 x1 n (((20:Int),r8.2))).bind fun (oU:PUnit×List α)=>
   some (((),oU.2)))
include hs
theorem stable {D:List α} (hN:D.length<2^57) (hn:D.length+21<n):∃D',eY key D'/\dR key D' D/\D'.length=D.length/\st ((),(D.length:Int),((),())) D=some ((),D'):=by
 obtain⟨L,R,g1,g2,g3,g4,g5⟩:=st2 hi hm h2 h7 h9 (N:=D.length) (by omega) (by omega) _ [] D n (fun _ h=>by cases h) rfl rfl (by omega)
 have hl:=g4
 rw[iP] at hl
 obtain⟨R',r1,r2,r3,r4⟩:=hi L.flatten R [] (by simp only[iP,List.length_nil];omega) (by omega)
 obtain⟨D',d1,d2,d3,d4⟩:=st7 hi hm h2 h7 h9 hN (by omega) _ 20 L R' n rfl (by omega) (by omega) g1 (by omega) r1 (by rw[iP];omega) (by omega)
 refine⟨D',d1,(d2.trans ((dR.refl _).app r2)).trans g3,d3, ?_⟩
 rw[hs]
 refine bd (a:=((L.flatten.length:Int),L.flatten++R)) g5 (bd (a:=((),L.flatten++R')) ?_ (bd (a:=((),D')) d4 rfl))
 show ins ((),((L.flatten.length:Int),((D.length:Int),((),())))) (L.flatten++R)=_
 rw[show (D.length:Int)=((L.flatten.length+R.length:Nat):Int) by omega]
 simpa using r4
end
end So
end
section
open Go Go.Proofs Aq
namespace Sh
theorem ap8 (n:Nat) (a b:Int):∃r:Int,cmp_Compare_int n (a,b)=some r/\(r<0↔a<b):=by
 have h1:∀x:Int,cmp_isNaN_int n x=some false:=fun x=>(aot n x).trans (congrArg (some (α:=Bool)) (by simp))
 have key:∀z:Option Int,(bif decide (a<b) then some (-1:Int) else bif decide (a>b) then some (1:Int) else some (0:Int))=z->cmp_Compare_int n (a,b)=z:=fun z hz=>by
  rw[aou]
  exact So.bd (h1 a) (So.bd (h1 b) hz)
 by_cases e1:a<b
 ·exact⟨-1,key _ (So.iT (decide_eq_true e1) rfl),by omega⟩
 ·by_cases e2:a>b
  ·exact⟨1,key _ (So.iF (decide_eq_false e1) (So.iT (decide_eq_true e2) rfl)),by omega⟩
  ·exact⟨0,key _ (So.iF (decide_eq_false e1) (So.iF (decide_eq_false e2) rfl)),by omega⟩
theorem ap9 (n:Nat):So.J6 (fun e:Entry=>e.ID) (fun p=>tO n p):=fun a b=>by
 obtain⟨r,h1,h2⟩:=ap8 n a.ID b.ID
 exact⟨r,(aov n a b).trans (So.bd h1 rfl),h2⟩
theorem aqa {n:Nat} {D:List Entry} (hN:D.length<2^57) (hn:D.length+21<n):∃D',So.eY (fun e:Entry=>e.ID) D'/\So.dR (fun e:Entry=>e.ID) D' D/\D'.length=D.length/\
 yN n (((),((),()))) D=some ((),D'):=by
 have hc:=ap9 n
 have h4:=fun x1 x2 x4 m x6 x7=>aow n x1 x2 x4 m x6 x7
 have h1:=fun x1 x2 m x4 x5=>aox n x1 x2 m x4 x5
 have hsw:∀(A X M Y B:List Entry),X.length=Y.length->(A++X++M++Y++B).length<2^61->X.length<n->tQ n ((),(A.length:Int),((A.length+X.length+M.length:Nat):Int),((X.length:Nat):Int),((),())) (A++X++M++Y++B)=some ((),A++Y++M++X++B):=fun A X M Y B e hb hn=>by
  rw[aoA]
  have:=So.adD (α:=Entry) (L1:=fun a b c m p=>JJ n a b c m p) (fun x1 x2 x3 m x5 x6=>aoz n x1 x2 x3 m x5 x6) (A:=A) (M:=M) (B:=B) X Y [] [] n e rfl (by simpa using hb) hn
  simp only[List.nil_append,List.length_nil,ae5] at this
  exact So.bd (a:=((),A++Y++M++X++B)) this rfl
 have hro:∀A U V B:List Entry,0<U.length->0<V.length->(A++(U++V)++B).length<2^61->U.length+V.length<n->uV n ((),(A.length:Int),((A.length+U.length:Nat):Int),((A.length+U.length+V.length:Nat):Int),((),())) (A++(U++V)++B)=some ((),A++(V++U)++B):=fun A U V B hu hv hb hn=>by
  rw[aoC]
  simp only[iP] at hb
  rw[So.wr (by omega) (by omega),So.wr (by omega) (by omega),show ((A.length+U.length:Nat):Int)-(A.length:Int)=((U.length:Nat):Int) by omega,show ((A.length+U.length+V.length:Nat):Int)-((A.length+U.length:Nat):Int)=((V.length:Nat):Int) by omega]
  exact So.ap2 (α:=Entry) (n:=n) (sw:=fun p q=>tQ n p q) hsw (L2:=fun a m p=>EG n a m p) (fun x2 m x5 x6 x7=>aoB n x2 m x5 x6 x7) hu hv (by simp only[iP];omega) hn
 have hi:∀A W B:List Entry,(A++(W++B)).length<2^59->W.length+1<n->∃W',So.eY (fun e:Entry=>e.ID) W'/\So.dR (fun e:Entry=>e.ID) W' W/\W'.length=W.length/\uU n ((),(A.length:Int),((A.length+W.length:Nat):Int),((),())) (A++(W++B))=some ((),A++(W'++B)):=fun A W B hb hn=>by
  obtain⟨W',w1,w2,w3,w4⟩:=So.apY (α:=Entry) (cmp:=fun p=>tO n p) hc (L4:=fun a b c m p=>JH n a b c m p) h4 (n:=n) (L1:=fun a b m p=>JI n a b m p) h1 (A:=A) (W:=W) (B:=B) (by omega) hn
  refine⟨W',w1,w2,w3, ?_⟩
  rw[aoy]
  exact So.bd (a:=((),A++(W'++B))) w4 rfl
 have hm:∀A U V B:List Entry,So.eY (fun e:Entry=>e.ID) U->So.eY (fun e:Entry=>e.ID) V->0<U.length->0<V.length->U.length+V.length<n->(A++(U++(V++B))).length<2^59->∃W,So.eY (fun e:Entry=>e.ID) W/\So.dR (fun e:Entry=>e.ID) W (U++V)/\W.length=U.length+V.length/\
  wK n ((),(A.length:Int),((A.length+U.length:Nat):Int),((A.length+U.length+V.length:Nat):Int),((),())) (A++(U++(V++B)))=some ((),A++(W++B)):=fun A U V B hU hV hu hv hn hb=>by
  obtain⟨W,w1,w2,w3,w4⟩:=So.sym (α:=Entry) (cmp:=fun p=>tO n p) hc (n:=n) (L3:=fun g a l m p=>EH n g a l m p) (L9:=fun g a m p=>JK n g a m p) (oZ:=fun g a l m p=>EI n g a l m p) (y8:=fun g a m p=>JL n g a m p) (nH:=fun g a b c l m p=>AX n g a b c l m p)
   (ro:=fun p q=>uV n p q) (S:=fun g p q=>jw n g p q)
   (fun g x1 x4 m x5 x6=>aoD n g x1 x4 m x5 x6) (fun g r m x y=>aoE n g r m x y) (fun g x2 x4 m x y=>aoF n g x2 x4 m x y) (fun g r m x y=>aoG n g r m x y) (fun g x1 x2 x3 x4 m x y=>aoH n g x1 x2 x3 x4 m x y) hro
   (fun g x1 x2 x3 x4=>aoI n g x1 x2 x3 x4) n A U V B hU hV hu hv hn hn hb
  exact⟨W,w1,w2,w3,by unfold wK;exact w4⟩
 obtain⟨D',d1,d2,d3,d4⟩:=So.stable (α:=Entry) (key:=fun e:Entry=>e.ID) (n:=n) (ins:=fun p q=>uU n p q) (sy:=fun p q=>wK n p q) (L2:=fun a m p=>JW n a m p) (L9:=fun a b m p=>JX n a b m p) (L7:=fun a m p=>EJ n a m p) hi hm
  (fun x1 m x3 x4 x5=>aoJ n x1 m x3 x4 x5) (fun x1 m x y=>aoL n x1 m x y) (fun x1 x9 m a b c=>aoK n x1 x9 m a b c) (st:=fun p q=>yM n p q) (fun x1 x2=>aoM n x1 x2) (D:=D) hN hn
 refine⟨D',d1,d2,d3, ?_⟩
 rw[aoN]
 exact So.bd (a:=((),D')) d4 rfl
def PZ (a:Snapshot) (r:Row):Bool:=bif bif bif decide (r.Entry.From<=a.Day) then decide (a.Day<r.Entry.To) else false then decide (r.Entry.jv<=a.aI) else false then bif r.dI==((0:Int)) then true else decide (r.dI>a.aI) else false
def u7 (a:Snapshot) (l:List Row):List Entry:=(l.filter (PZ a)).map (·.Entry)
theorem aqb {n:Nat} {b:Book} {a:Snapshot} (hb:b.Rows.length<2^29):∀(k i:Nat) (acc:List Entry) (m:Nat),i+k=b.Rows.length->acc.length<=i->k<m->
 EK n b a m (((),(i:Int)),acc)=some ((),acc++u7 a (b.Rows.drop i)):=by
 intro k
 induction k with
 |zero=>
  intro i acc m hi _ hm
  obtain⟨m,rfl⟩:∃m',m=m'+1:=⟨m-1,by omega⟩
  obtain rfl:i=b.Rows.length:=by omega
  rw[ac8]
  refine So.iF (decide_eq_false (by omega)) ?_
  rw[List.drop_length];simp[u7]
 |succ k ih=>
  intro i acc m hi ha hm
  obtain⟨m,rfl⟩:∃m',m=m'+1:=⟨m-1,by omega⟩
  have hlt:i<b.Rows.length:=by omega
  have hx:b.Rows[i]? =some b.Rows[i]:=acR hlt
  rw[ac8,fE (by omega),al2 hlt]
  refine So.iT (decide_eq_true (by omega)) (So.bd (fC hx) ?_)
  cases hv:PZ a b.Rows[i] with
  |true=>
   refine So.iT hv (So.gT (uO (by simp only[List.length_cons,List.length_nil];omega) (by omega)) ?_)
   rw[ih (i+1) (acc++[b.Rows[i].Entry]) m (by omega) (by rw[iP];simp only[List.length_cons,List.length_nil];omega) (by omega)]
   unfold u7
   rw[aoS hv,ac7,acF];rfl
  |false=>
   refine So.iF hv ?_
   rw[ih (i+1) acc m (by omega) (by omega) (by omega)]
   unfold u7
   rw[aoQ (by rw[hv];simp)]
theorem aqc {n:Nat} {b:Book} {a:Snapshot} (hb:b.Rows.length<2^29) (hn:b.Rows.length+21<n):∃D,So.eY (fun e:Entry=>e.ID) D/\So.dR (fun e:Entry=>e.ID) D (u7 a b.Rows)/\D.length<=b.Rows.length/\Ey n (b,a)=some D:=by
 have hl:(u7 a b.Rows).length<=b.Rows.length:=by unfold u7;rw[aau];exact List.length_filter_le _ _
 obtain⟨D,d1,d2,d3,d4⟩:=aqa (n:=n) (D:=u7 a b.Rows) (by omega) (by omega)
 refine⟨D,d1,d2,by omega, ?_⟩
 rw[aoO]
 refine So.bd (a:=((),u7 a b.Rows)) ?_ (So.bd (a:=((),D)) d4 rfl)
 have:=aqb (n:=n) (a:=a) hb b.Rows.length 0 [] n (by omega) (RS _) (by omega)
 simpa using this
end Sh
end
section
open Go Go.Proofs Aq
namespace Sh
theorem EW (n:Nat):gZ n (())=some true:=am7 n ()
theorem aqd {n:Nat} {s:ak} {x1:ak} {x2:List Event} {x3:Int} {x4:Snapshot} {x5:List Int} {r6:Book×Bool} (hn:2^20<n) (hb:BI n s r6.1):EL n x1 x2 x3 x4 x5 r6 (nW r6.1,y7 r6.1) n (0:Int)=some (.inl ()):=by
 have PV:=hb.rows
 have key:∀(k i m:Nat),i+k=r6.1.Rows.length->k<m->EL n x1 x2 x3 x4 x5 r6 (nW r6.1,y7 r6.1) m (i:Int)=some (.inl ()):=by
  intro k
  induction k with
  |zero=>
   intro i m hi hm
   obtain⟨m,rfl⟩:∃m',m=m'+1:=⟨m-1,by omega⟩
   rw[ada,decide_eq_false (by omega)];rfl
  |succ k ih=>
   intro i m hi hm
   obtain⟨m,rfl⟩:∃m',m=m'+1:=⟨m-1,by omega⟩
   have hlt:i<r6.1.Rows.length:=by omega
   have hg:r6.1.Rows[i]? =some r6.1.Rows[i]:=acR hlt
   have hm1:=aed hlt
   generalize r6.1.Rows[i]=r at hg hm1
   have a1:=J5 hn hb hm1 (l:=nW r6.1) rfl
   have a2:=J5 hn hb hm1 (adx r6.1)
   rw[ada,jM hg,cond_true]
   refine bs (fC hg) (bs a1 (bs (fC hg) (bs a2 ?_)))
   obtain⟨y,hy,hy2⟩:∃y,iQ (bif !(bif jH r6.1 r then !jH r6.1 r&& (r.dI==(0:Int)) else false) then bif !jH r6.1 r then !(!jH r6.1 r&& (r.dI==(0:Int))) else false else false) (aB r6.1.Rows (i:Int)) (⟨⟨0,0,0,0,0,0,0,[],[]⟩,0⟩:Row)=some y/\(jH r6.1 r=false->(r.dI==(0:Int))=false->y=r):=by
    rw[fC hg,Ul]
    exact⟨_,rfl,fun h1 h2=>by rw[h1,h2];rfl⟩
   refine bs hy ?_
   rw[fE (by omega)]
   refine bF ?_ (ih (i+1) m (by omega) (by omega))
   cases h1:jH r6.1 r
   ·cases h2:(r.dI==(0:Int))
    ·rw[hy2 h1 h2,h2];rfl
    ·rfl
   ·rfl
 exact key r6.1.Rows.length 0 n (by omega) (by omega)
theorem aqe {n:Nat} {x1:ak} {x2:List Event} {x4:Snapshot} {x5:List Int} {r6:Book×Bool} {r8 jE:List Row×List Row} (hn:2^20<n) (hl:jE.1.length<=65536) (h:∀r∈jE.1,nC n (r8.1,r.Entry)=some true):EM n x1 x2 x4 x5 r6 r8 jE n (0:Int)=some (.inl ()):=by
 have key:∀(k i m:Nat),i+k=jE.1.length->k<m->EM n x1 x2 x4 x5 r6 r8 jE m (i:Int)=some (.inl ()):=by
  intro k
  induction k with
  |zero=>
   intro i m hi hm
   obtain⟨m,rfl⟩:∃m',m=m'+1:=⟨m-1,by omega⟩
   rw[adb,decide_eq_false (by omega)];rfl
  |succ k ih=>
   intro i m hi hm
   obtain⟨m,rfl⟩:∃m',m=m'+1:=⟨m-1,by omega⟩
   have hlt:i<jE.1.length:=by omega
   have hg:jE.1[i]? =some jE.1[i]:=acR hlt
   rw[adb,jM hg,cond_true,fE (by omega)]
   exact bs (fC hg) (bs (h _ (aed hlt)) (bF rfl (ih (i+1) m (by omega) (by omega))))
 exact key jE.1.length 0 n (by omega) (by omega)
theorem aqf {n:Nat} {x1:ak} {x2:List Event} {x5:List Int} {r6:Book×Bool} {r8:List Row×List Row} {jG:List Entry} (hn:2^20<n) (hl:jG.length<=65536) (h:∀x∈jG,nC n (r8.2,x)=some false/\nC n (r8.1,x)=some true):EN n x1 x2 x5 r6 r8 jG n (0:Int)=some (.inl ()):=by
 have key:∀(k i m:Nat),i+k=jG.length->k<m->EN n x1 x2 x5 r6 r8 jG m (i:Int)=some (.inl ()):=by
  intro k
  induction k with
  |zero=>
   intro i m hi hm
   obtain⟨m,rfl⟩:∃m',m=m'+1:=⟨m-1,by omega⟩
   rw[ade,decide_eq_false (by omega)];rfl
  |succ k ih=>
   intro i m hi hm
   obtain⟨m,rfl⟩:∃m',m=m'+1:=⟨m-1,by omega⟩
   have hlt:i<jG.length:=by omega
   have hg:jG[i]? =some jG[i]:=acR hlt
   obtain⟨h1,h2⟩:=h _ (aed hlt)
   generalize jG[i]=x at hg h1 h2
   rw[ade,jM hg,cond_true,fE (by omega)]
   refine bs (fC hg) (bs h1 ?_)
   refine bs (a:=x) (by rw[fC hg];rfl) ?_
   exact bs (a:=true) (by rw[h2];rfl) (bF rfl (ih (i+1) m (by omega) (by omega)))
 exact key jG.length 0 n (by omega) (by omega)
theorem aqg {n:Nat} {s:ak} {a b:Book} (ha:BI n s a) (hb:BI n s b) (h:Later a b) {r:Row} (hr:r∈a.Rows) (hp:jH a r=true):∃r'∈b.Rows,r'.Entry=r.Entry/\jH b r'=true:=by
 obtain⟨hc,⟨t,ht⟩,f,u,hf,hd⟩:=h
 have hm:f r∈b.Rows:=by rw[hf];exact ajr _ (List.mem_map_of_mem hr)
 have hle:=PU hb hm
 have hla:=PU ha hr
 have hac:=ha.commit
 have hbc:=hb.commit
 have hra:=(ha.row r hr).1
 have hold:∀(t:List Int) (c:Nat),c<=a.bO.length->lV (a.bO++t) c=lV a.bO c:=by
  intro t c hc
  unfold lV
  split
  ·rfl
  ·rw[adH,adH,amk (by omega)]
 have hent:(f r).Entry=r.Entry:=by
  rcases hd r with e| ⟨_,c,_,e⟩<;>rw[e]
 have hl:sI a r<=sI b (f r):=by
  rcases hd r with e| ⟨e1,c,e2,e3⟩
  ·rw[e];unfold sI;split<;>omega
  ·rw[e3]
   have h0:¬r.dI>0:=by omega
   have h1:c>0:=by omega
   unfold sI
   rw[if_neg h0,if_pos (show (⟨r.Entry,c⟩:Row).dI>0 from h1)]
   show a.aI.toNat<=(c-1).toNat
   omega
 refine⟨f r,hm,hent, ?_⟩
 unfold jH at hp⊢
 have hp':=of_decide_eq_true hp
 refine decide_eq_true ?_
 rw[hent]
 have:=hb.mono _ _ hl hle
 rw[ht,hold t _ hla,<-ht] at this
 omega
theorem aqh {a:Snapshot} {l:List Row} {D:List Entry} (h:So.dR (fun e:Entry=>e.ID) D (u7 a l)) {x:Entry} (hx:x∈D):∃r∈l,PZ a r=true/\r.Entry=x:=by
 have h1:x∈D.filter (fun a=>(fun e:Entry=>e.ID) a==x.ID):=aji.2 ⟨hx,by simp⟩
 rw[h x.ID] at h1
 obtain⟨r,hr,e⟩:=ajQ.1 (aji.1 h1).1
 exact⟨r,(aji.1 hr).1,(aji.1 hr).2,e⟩
theorem aqi {n:Nat} {x1:ak} {x2:List Event} {x5:List Int} {r6:Book×Bool} {r8:List Row×List Row} (hn:2^20<n) (hs:nE x1 n) (hl:x2.length<n) (hl2:x2.length<2^28) (he0:∀e∈x2,J3 e n) (he:∀e∈x2,wR e n) (hv:x5.length<=40) (ho:y5 n x1) (hrun:iK n (book0 x1) x2 r6.1) (h8:r8.1=nW r6.1):
 (
  bif !((((x2.length:Nat):Int))==((0:Int))) then
   (aB x2 (Go.IntKind.wrap .i64 ((((x2.length:Nat):Int))-((1:Int))))).bind fun (U8:Event)=>
   bif !(U8.Kind !=((1:Int))) then
    (aB x2 (Go.IntKind.wrap .i64 ((((x2.length:Nat):Int))-((1:Int))))).bind fun (U9:Event)=>
    bif decide (U9.Until<=r6.1.Day) then
     (gZ n (())).bind fun (Va:Bool)=>
     some Va
    else
     bif bJ x2.length 120 then
      bif decide (0<=(Go.IntKind.wrap .i64 ((((x2.length:Nat):Int))-((1:Int))))/\(Go.IntKind.wrap .i64 ((((x2.length:Nat):Int))-((1:Int))))< ((x2.length:Nat):Int)) then
       (aB x2 (Go.IntKind.wrap .i64 ((((x2.length:Nat):Int))-((1:Int))))).bind fun (aO:Event)=>
       bif decide (0<=(Go.IntKind.wrap .i64 (((((aW x2 (Go.IntKind.wrap .i64 ((((x2.length:Nat):Int))-((1:Int)))) ((⟨aO.Kind,aO.aI,aO.Day,aO.ID,aO.bI,aO.Until,aO.From,x5,aO.aM,aO.aL⟩:Event))).length:Nat):Int))-((1:Int))))/\(Go.IntKind.wrap .i64 (((((aW x2 (Go.IntKind.wrap .i64 ((((x2.length:Nat):Int))-((1:Int)))) ((⟨aO.Kind,aO.aI,aO.Day,aO.ID,aO.bI,aO.Until,aO.From,x5,aO.aM,aO.aL⟩:Event))).length:Nat):Int))-((1:Int))))< (((aW x2 (Go.IntKind.wrap .i64 ((((x2.length:Nat):Int))-((1:Int)))) ((⟨aO.Kind,aO.aI,aO.Day,aO.ID,aO.bI,aO.Until,aO.From,x5,aO.aM,aO.aL⟩:Event))).length:Nat):Int)) then
        (aB (aW x2 (Go.IntKind.wrap .i64 ((((x2.length:Nat):Int))-((1:Int)))) ((⟨aO.Kind,aO.aI,aO.Day,aO.ID,aO.bI,aO.Until,aO.From,x5,aO.aM,aO.aL⟩:Event))) (Go.IntKind.wrap .i64 (((((aW x2 (Go.IntKind.wrap .i64 ((((x2.length:Nat):Int))-((1:Int)))) ((⟨aO.Kind,aO.aI,aO.Day,aO.ID,aO.bI,aO.Until,aO.From,x5,aO.aM,aO.aL⟩:Event))).length:Nat):Int))-((1:Int))))).bind fun (l7:Event)=>
        (qV n ((x1,aW (aW x2 (Go.IntKind.wrap .i64 ((((x2.length:Nat):Int))-((1:Int)))) ((⟨aO.Kind,aO.aI,aO.Day,aO.ID,aO.bI,aO.Until,aO.From,x5,aO.aM,aO.aL⟩:Event))) (Go.IntKind.wrap .i64 (((((aW x2 (Go.IntKind.wrap .i64 ((((x2.length:Nat):Int))-((1:Int)))) ((⟨aO.Kind,aO.aI,aO.Day,aO.ID,aO.bI,aO.Until,aO.From,x5,aO.aM,aO.aL⟩:Event))).length:Nat):Int))-((1:Int)))) ((⟨l7.Kind,l7.aI,l7.Day,l7.ID,l7.bI,l7.Until,l7.From,l7.Vec,[],l7.aL⟩:Event))))).bind fun (JZ:Book×Bool)=>
        bif !JZ.2 then
         (gZ n (())).bind fun (Vb:Bool)=>
         some Vb
        else
         (qp n JZ.1).bind fun (Vd:(List Row)×List Row)=>
         (gZ n (())).bind fun (J2:Bool)=>
         (iQ J2 (sF n ((Vd.1,r8.1))) false).bind fun (Ve:Bool)=>
         some (bif J2 then Ve else false)
       else
        none
      else
       none
     else
      none
   else
    (gZ n (())).bind fun (Vf:Bool)=>
    some Vf
  else
   (gZ n (())).bind fun (Vg:Bool)=>
   some Vg)=some true:=by
 rcases List.eq_nil_or_concat x2 with rfl| ⟨l0,e,hx2⟩
 ·exact bF rfl (bs (EW n) rfl)
 rw[List.concat_eq_append] at hx2
 subst hx2
 have hlen:(l0++[e]).length=l0.length+1:=by simp
 rw[hlen] at hl hl2
 have hw:∀y:Event,IntKind.wrap .i64 ((((l0++[y]).length:Nat):Int)-(1:Int))=((l0.length:Nat):Int):=fun y=>by
  have:=HZ (i:=l0.length+1) (by omega) (by omega)
  simpa using this
 have hi:∀y:Event,aB (l0++[y]) ((l0.length:Nat):Int)=some y:=fun y=>fC (by simp)
 have hset:∀y z:Event,aW (l0++[y]) ((l0.length:Nat):Int) z=l0++[z]:=fun y z=>set_mid l0 y z []
 have hin:∀y:Event,decide (0<=((l0.length:Nat):Int)/\((l0.length:Nat):Int)< (((l0++[y]).length:Nat):Int))=true:=fun y=>HY (by simp)
 simp only[hw]
 refine bT (by rw[hlen];simp;omega) (bs (hi e) ?_)
 by_cases hk:e.Kind=1
 ·refine bT (by rw[hk];rfl) (bs (hi e) ?_)
  by_cases hu:e.Until<=r6.1.Day
  ·exact bT (decide_eq_true hu) (bs (EW n) rfl)
  refine bF (decide_eq_false hu) (bT (uO (by rw[hlen];omega) (by omega)) (bT (hin e) (bs (hi e) ?_)))
  simp only[hset,hw]
  refine bT (hin _) (bs (hi _) ?_)
  dsimp only
  generalize he2:(⟨e.Kind,e.aI,e.Day,e.ID,e.bI,e.Until,e.From,x5,[],e.aL⟩:Event)=e2
  have hem:e∈l0++[e]:=akd _ (adu.2 rfl)
  have s0:∀y∈l0++[e2],J3 y n:=fun y hy=>by
   rcases agj.1 hy with hy|hy
   ·exact he0 y (ajr _ hy)
   ·rw[adu.1 hy,<-he2]
    exact⟨by show x5.length<n;omega,by show x5.length<2^62;omega,by show 0<n;omega,by show 0<2^62;omega⟩
  have s1:∀y∈l0++[e2],wR y n:=fun y hy=>by
   rcases agj.1 hy with hy|hy
   ·exact he y (ajr _ hy)
   ·rw[adu.1 hy,<-he2]
    exact⟨by show x5.length<n;omega,by show x5.length<2^62;omega,by show 0<n;omega,by show 0<2^62;omega,hv,by show 0<=20;omega,fun a ha=>by cases ha⟩
  obtain⟨c,g1,g2,_⟩:=Vr (n:=n) (s:=x1) (l:=l0++[e2]) hn hs (by simp;omega) (by simp;omega) s0
  have h2s:∀y z w:Event,aW (aW (l0++[y]) ((l0.length:Nat):Int) z) ((l0.length:Nat):Int) w=l0++[w]:=fun y z w=>by rw[hset,hset]
  refine bs (a:=c) ((congrArg (fun q=>qV n (x1,q)) (h2s _ _ _)).trans g1) ?_
  cases hc:c.2
  ·exact bT rfl (bs (EW n) rfl)
  obtain⟨_,aqk,_⟩:=g2 hc
  obtain⟨bm,k1,r,k2,k3,k4⟩:=iK.split hrun
  obtain⟨bm',k1',r',k2',k3',Vy⟩:=iK.split aqk
  have:=iK.Vq k1 k1'
  subst this
  have k4:r6.1=r.B:=k4
  have Vy:c.1=r'.B:=Vy
  have bim:=(iK.ok hn hs (PS n x1) (fun y hy=>he y (ajr _ hy)) k1).1
  obtain⟨q,q1,⟨q2,q3⟩,q4⟩:=PO hn hs bim (he e hem)
  rw[k2] at q1;cases q1
  obtain⟨q',q1',⟨q2',q3'⟩,q4'⟩:=PO hn hs bim (s1 e2 (akd _ (adu.2 rfl)))
  rw[k2'] at q1';cases q1'
  have st:=q3 k3
  have st':=q3' k3'
  obtain⟨t,t1,t2⟩:=q4 k3 hk
  obtain⟨t',t1',t2'⟩:=q4' k3' (by rw[<-he2];exact hk)
  rw[<-k4] at st t1 q2
  rw[<-Vy] at st' t1' q2'
  have hd:c.1.bO=r6.1.bO:=by rw[st.days,st'.days,<-he2]
  have hcc:c.1.aI=r6.1.aI:=by rw[st.commit,st'.commit]
  have aqm:jH c.1=jH r6.1:=by
   funext y
   unfold jH sI
   rw[hd,hcc]
  have hno:∀{u:List Row},(∀y∈u,y.dI=0/\y.Entry.From=e.Until)->u.filter (jH r6.1)=[]:=fun {u} hu'=>by
   rw[List.filter_eq_nil_iff]
   intro y hy
   obtain⟨y1,y2⟩:=hu' y hy
   have aqn:=q2.day
   have hcm:=q2.commit
   unfold jH sI
   rw[if_neg (by omega),hcm,y2]
   show¬(decide (e.Until<=lV r6.1.bO (((r6.1.bO.length:Nat):Int)).toNat)=true)
   rw[Int.toNat_natCast,aqn]
   simpa using hu
  have heq:nW c.1=nW r6.1:=by
   unfold nW
   rw[aqm,t1,t1',ama,ama,hno t2,hno (u:=t') (fun y hy=>⟨(t2' y hy).1,(t2' y hy).2.trans (by rw[<-he2])⟩)]
  refine bF rfl (bs (Vs hn q2') (bs (EW n) ?_))
  have hsr:sF n (nW c.1,r8.1)=some true:=by
   rw[h8,heq]
   refine apy (fun y hy=>(q2.row y (aji.1 hy).1).2.1.2.2.2.2) hn ?_
   have:=q2.rows
   exact aav (List.length_filter_le _ _) this
  exact bs (a:=true) (by show iQ true (sF n (nW c.1,r8.1)) false=_;rw[hsr];rfl) rfl
 ·refine bF ?_ (bs (EW n) rfl)
  have:(e.Kind !=(1:Int))=true:=by simpa using hk
  rw[this];rfl
theorem aqo {n:Nat} {s:ak} {l:List Event} {k:Int} {at_:Snapshot} {vec:List Int} (hn:2^20<n) (hs:nE s n) (hl:l.length<n) (hl2:l.length<2^28) (he0:∀e∈l,J3 e n) (hk:0<=k/\k<256) (hv:vec.length<2^62):PG n (s,(l,(k,(at_,vec))))=some true:=by
 obtain⟨r6,f1,f2,_⟩:=Vr hn hs hl (by omega) he0
 rw[aoR]
 refine bs f1 ?_
 cases hc:(bif !r6.2 then true else decide (((vec.length:Nat):Int)> (40:Int)))
 ·have h2:r6.2=true:=by
   cases h:r6.2
   ·rw[h] at hc;cases hc
   ·rfl
  have aqp:vec.length<=40:=by
   rw[h2] at hc
   have:=of_decide_eq_false hc
   omega
  obtain⟨ho,hrun,hev⟩:=f2 h2
  obtain⟨hB,_⟩:=iK.ok hn hs (PS n s) hev hrun
  have PV:=hB.rows
  have tl:=aqi (x5:=vec) (r8:=(nW r6.1,y7 r6.1)) hn hs hl hl2 he0 hev aqp ho hrun rfl
  refine bF rfl (bs (Vs hn hB) (bs (aqd hn hB) ?_))
  have w1:IntKind.wrap .i64 (((l.length:Nat):Int)+(1:Int))=((l.length+1:Nat):Int):=fE (by omega)
  have w2:IntKind.wrap .i64 k=k:=j4 (by omega) (by omega)
  dsimp only[Sum.elim_inl]
  rw[w1,w2]
  refine bT (by simp;omega) ?_
  have hm0:0<=Int.tmod k ((l.length+1:Nat):Int):=Int.tmod_nonneg _ hk.1
  have hm1:Int.tmod k ((l.length+1:Nat):Int)< ((l.length+1:Nat):Int):=Int.tmod_lt_of_pos _ (by omega)
  generalize Int.tmod k ((l.length+1:Nat):Int)=z at hm0 hm1
  refine bT (Nc ⟨hm0,by omega⟩) ?_
  have htk:(l.take z.toNat).length<=l.length:=by rw[ads];omega
  obtain⟨wM,e1,_,e3⟩:=Vr (n:=n) (s:=s) (l:=l.take z.toNat) hn hs (by omega) (by omega) (fun x hx=>he0 x (List.mem_of_mem_take hx))
  refine bs e1 ?_
  have hrun':=hrun
  rw[<-aga z.toNat l] at hrun'
  obtain⟨bm,m1,m2⟩:=iK.split hrun'
  obtain⟨hBm,_⟩:=iK.ok hn hs (PS n s) (fun x hx=>hev x (List.mem_of_mem_take hx)) m1
  obtain⟨_,hlat⟩:=iK.ok hn hs hBm (fun x hx=>hev x (List.mem_of_mem_drop hx)) m2
  obtain⟨jE,s1,s2,s3⟩:∃jE:List Row×List Row,qp n wM.1=some jE/\jE.1.length<=65536/\∀r∈jE.1,nC n (nW r6.1,r.Entry)=some true:=by
   rcases e3 ho bm m1 with h|h
   ·rw[h]
    refine⟨_,Vs hn hBm,aav (List.length_filter_le _ _) hBm.rows,fun r hr=> ?_⟩
    obtain⟨hr1,hr2⟩:=aji.1 hr
    obtain⟨r',g1,g2,g3⟩:=aqg hBm hB hlat hr1 hr2
    rw[<-g2,J5 hn hB g1 (l:=nW r6.1) rfl,g3]
   ·exact⟨_,apQ hn h,ael _,fun r hr=>by cases hr⟩
  refine bs s1 (bs (aqe hn s2 s3) ?_)
  dsimp only[Sum.elim_inl]
  by_cases c1:at_.aI>=1
  ·refine bT (decide_eq_true c1) ?_
   by_cases c2:at_.aI<=r6.1.aI
   ·refine bT (decide_eq_true c2) ?_
    have hcm:=hB.commit
    have h30:=hB.days
    obtain⟨j,hj⟩:∃j:Nat,at_.aI=((j+1:Nat):Int):=⟨(at_.aI-1).toNat,by omega⟩
    have hjl:j<r6.1.bO.length:=by omega
    have hw:IntKind.wrap .i64 (at_.aI-(1:Int))=((j:Nat):Int):=by
     rw[hj]
     have:=HZ (i:=j+1) (by omega) (by omega)
     simpa using this
    have hx:r6.1.bO[j]? =some r6.1.bO[j]:=acR hjl
    rw[hw]
    refine bs (fC hx) ?_
    by_cases c3:at_.Day<=r6.1.bO[j]
    ·refine bT (decide_eq_true c3) ?_
     obtain⟨D,_,d2,d3,d4⟩:=aqc (n:=n) (b:=r6.1) (a:=at_) (by omega) (by omega)
     refine bs d4 ?_
     have hall:∀x∈D,nC n (y7 r6.1,x)=some false/\nC n (nW r6.1,x)=some true:=fun x hx'=>by
      obtain⟨r,hr,y9,rfl⟩:=aqh d2 hx'
      have hp:jH r6.1 r=true:=by
       unfold PZ at y9
       have v1:r.Entry.From<=at_.Day:=by
        by_cases q:r.Entry.From<=at_.Day
        ·exact q
        ·rw[decide_eq_false q] at y9;cases y9
       have v2:r.dI=0\/r.dI>at_.aI:=by
        by_cases q:r.dI=0
        ·exact .inl q
        ·right
         have q1:(r.dI==(0:Int))=false:=by simpa using q
         rw[q1] at y9
         by_cases q2:r.dI>at_.aI
         ·exact q2
         ·rw[decide_eq_false q2] at y9
          revert y9
          cases (bif bif decide (r.Entry.From<=at_.Day) then decide (at_.Day<r.Entry.To) else false then decide (r.Entry.jv<=at_.aI) else false)<;>(intro y9;cases y9)
       have hll:=PU hB hr
       have hle:j+1<=sI r6.1 r:=by
        unfold sI
        split<;>omega
       have hmo:=hB.mono _ _ hle hll
       have hdj:lV r6.1.bO (j+1)=r6.1.bO[j]:=by
        unfold lV
        rw[if_neg (by omega),adH,show j+1-1=j by omega,hx];rfl
       unfold jH
       exact decide_eq_true (by omega)
      rw[J5 hn hB hr (adx r6.1),J5 hn hB hr (l:=nW r6.1) rfl,hp]
      exact⟨rfl,rfl⟩
     refine bs (aqf hn (by omega) hall) ?_
     dsimp only[Sum.elim_inl]
     exact tl
    ·exact bF (decide_eq_false c3) tl
   ·exact bF (decide_eq_false c2) tl
  ·exact bF (decide_eq_false c1) tl
 ·exact bT rfl (bs (EW n) rfl)
end Sh
end
section
namespace Go.Proofs.YtdcnajadcbedkaaGreatDoor.daybook
open Go Go.ChangeShapes Go.WideShapes Go.ChangeAt Go.RowKit Aq Sh
set_option maxRecDepth 100000
theorem byte_of {n:Int} {k:Nat} (h:jY (V.int .u8 n)<=k) (hk:k<2^62):0<=n/\n<256:=by
 have h1:1+Dt .u8 n<=k:=h
 have h2:=ajX (k:=.u8) (n:=n) (by omega)
 have e0:IntKind.min .u8=0:=by decide
 have e1:IntKind.max .u8=255:=by decide
 rw[e0,e1] at h2
 omega
theorem aqr {l:List V} {v:V} (h:v∈l):jX v<=nS l:=by
 induction l with
 |nil=>cases h
 |cons x l ih=>
  rcases adf.1 h with rfl|h
  ·show jX v<=jX v+nS l;omega
  ·have:=ih h
   show jX v<=jX x+nS l;omega
theorem Vz {α:Type} (f:α->V) {l:List α} {x:α} (h:x∈l):jX (f x)<=nS (l.map f):=aqr (List.mem_map_of_mem h)
theorem Bf {α:Type} (f:α->V) (hf:∀x,1<=jX (f x)) (l:List α):l.length<=nS (l.map f):=by
 induction l with
 |nil=>exact ael _
 |cons x l ih=>
  have:=hf x
  show l.length+1<=jX (f x)+nS (l.map f)
  omega
theorem adJ (d:Def):d.Name.length+d.Words.length+1<=jX (Def.v d)/\∀w∈d.Words,w.length+1<=jX (Def.v d):=by
 have e:jX (Def.v d)=(d.Name.length+1)+(1+(1+(1+(nS (d.Words.map V.str)+1+0)))):=rfl
 have h1:=Bf V.str (fun x=>by simp[jX]) d.Words
 refine⟨by omega,fun w hw=> ?_⟩
 have h2:=Vz V.str hw
 have h3:jX (V.str w)=w.length+1:=rfl
 omega
theorem aqs {s:ak} {n k:Nat} (h:jX (ak.v s)<=k) (hk:k<n) (hk2:k<2^62):nE s n:=by
 have e:jX (ak.v s)=1+(1+(nS (s.Defs.map Def.v)+1+0)):=rfl
 have h1:=Bf Def.v (fun x=>by have:=(adJ x).1;omega) s.Defs
 refine⟨by omega,by omega,fun d hd=> ?_⟩
 have h2:=Vz Def.v hd
 have h3:=adJ d
 have h4:=h3.1
 refine⟨by omega,by omega,by omega,by omega,fun w hw=> ?_⟩
 have:=h3.2 w hw
 exact⟨by omega,by omega⟩
theorem VA (e:Sh.Event):e.Vec.length+e.aM.length+1<=jX (Event.v e):=by
 have h1:=Bf iv (fun x=>RS _) e.Vec
 have h2:=Bf Attr.v (fun x=>by show 1<=(x.Name.length+1)+_;omega) e.aM
 obtain⟨m,hm⟩:∃m,jX (Event.v e)=1+(1+(1+(1+(1+(1+(1+(nS (e.Vec.map iv)+1+(nS (e.aM.map Attr.v)+1+m)))))))):=⟨_,rfl⟩
 omega
theorem aqt {l:List Sh.Event} {n k:Nat} (h:nS (l.map Event.v)+1<=k) (hk:k<n) (hk2:k<2^62):l.length<n/\l.length<2^62/\∀e∈l,J3 e n:=by
 have h1:=Bf Event.v (fun x=>by have:=VA x;omega) l
 refine⟨by omega,by omega,fun x hx=> ?_⟩
 have h2:=Vz Event.v hx
 have h3:=VA x
 exact⟨by omega,by omega,by omega,by omega⟩
end Go.Proofs.YtdcnajadcbedkaaGreatDoor.daybook
end
