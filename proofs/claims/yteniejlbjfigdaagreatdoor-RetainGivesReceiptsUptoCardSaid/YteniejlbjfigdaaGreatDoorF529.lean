import Derived.ChangeCalls
import Derived.Test.YteniejlbjfigdaaGreatDoorF517
import Derived.Test.YteniejlbjfigdaaGreatDoorF528
set_option linter.all false
open Go.IntKind (wrap)
section
open Go aR
namespace So
variable {J:Type}
theorem ady {p q:Prop}[Decidable p][Decidable q](hp:p)(hq:q):(bif decide p then decide q else false)=true:=by rw[decide_eq_true hp,decide_eq_true hq];rfl
theorem adz {p q:Prop}[Decidable p][Decidable q](h:¬(p/\q)):(bif decide p then decide q else false)=false:=by
 by_cases hp:p
 .rw[decide_eq_true hp,decide_eq_false fun hq=>h ⟨hp,hq⟩];rfl
 .rw[decide_eq_false hp];rfl
theorem uO {γ:Type}{c:Bool}{o:Option (PUnit×List J)}{d d1:List J}{K1:PUnit×List J->Option γ}{K2 r:Option γ}(h:(c=true/\o=some ((),d1))\/(c=false/\d=d1))(k1:K1 ((),d1)=r)(k2:d=d1->K2=r):(bif c then o.bind K1 else K2)=r:=by
 rcases h with ⟨rfl,rfl⟩| ⟨rfl,e⟩
 .exact k1
 .exact k2 e
section
variable {key:J->Int}{cmp:J×J->Option Int}(hc:Pv key cmp){n:Nat}{L3:Nat->Int->List J->Nat->Int×Int->Option Int}{uN:Nat->Int->Nat->Int×List J->Option (PUnit×List J)}{tu:Nat->Int->List J->Nat->Int×Int->Option Int}{DZ:Nat->Int->Nat->Int×List J->Option (PUnit×List J)}{qW:Nat->Int->Int->Int->List J->Nat->Int×Int->Option Int}{ro:Unit×Int×Int×Int×(Unit×Unit)->List J->Option (PUnit×List J)}{S:Nat->Unit×Int×Int×Int×(Unit×Unit)->List J->Option (PUnit×List J)}(h3:∀(g:Nat) (x1:Int) (x4:List J) (m:Nat) (x5 x6:Int),L3 g x1 x4 (m+1) (x5,x6)=bif decide (x5<x6) then bif decide ((0:Int)<=(1:Int)) then bif decide (0<=(wrap .i64 (aH .u64 (wrap .u64 (wrap .i64 (x5+x6))) (1:Int)))/\(wrap .i64 (aH .u64 (wrap .u64 (wrap .i64 (x5+x6))) (1:Int)))< (x4.length:Int)) then (aK x4 (wrap .i64 (aH .u64 (wrap .u64 (wrap .i64 (x5+x6))) (1:Int)))).bind fun (r7:J)=>bif decide (0<=x1/\x1< (x4.length:Int)) then (aK x4 x1).bind fun (r8:J)=>(cmp ((r7,r8))).bind fun (bW:Int)=>bif decide (bW< (0:Int)) then L3 g x1 x4 m ((wrap .i64 ((wrap .i64 (aH .u64 (wrap .u64 (wrap .i64 (x5+x6))) (1:Int)))+(1:Int)),x6))else L3 g x1 x4 m ((x5,wrap .i64 (aH .u64 (wrap .u64 (wrap .i64 (x5+x6))) (1:Int))))else none else none else none else some x5)(h9:∀(g:Nat) (cZ:Int) (m:Nat) (dI:Int) (gL:List J),uN g cZ (m+1) (dI,gL)=bif decide (dI< (wrap .i64 (cZ-(1:Int)))) then bif decide (0<=(wrap .i64 (dI+(1:Int)))/\(wrap .i64 (dI+(1:Int)))< (gL.length:Int)) then (aK gL (wrap .i64 (dI+(1:Int)))).bind fun (eH:J)=>bif decide (0<=dI/\dI< (gL.length:Int)) then (aK gL dI).bind fun (iw:J)=>bif decide (0<=dI/\dI< (gL.length:Int)) then (aK gL dI).bind fun (fP:J)=>bif decide (0<=(wrap .i64 (dI+(1:Int)))/\(wrap .i64 (dI+(1:Int)))< (((eX gL dI eH).length:Nat):Int)) then (aK (eX gL dI eH) (wrap .i64 (dI+(1:Int)))).bind fun (r16:J)=>
        uN g cZ m ((wrap .i64 (dI+(1:Int)),eX (eX gL dI eH) (wrap .i64 (dI+(1:Int))) iw))else none else none else none else none else some (((),gL)))(Ky:∀(g:Nat) (x2:Int) (x4:List J) (m:Nat) (x18 jf:Int),tu g x2 x4 (m+1) (x18,jf)=bif decide (x18<jf) then bif decide ((0:Int)<=(1:Int)) then bif decide (0<=x2/\x2< (x4.length:Int)) then (aK x4 x2).bind fun (FQ:J)=>bif decide (0<=(wrap .i64 (aH .u64 (wrap .u64 (wrap .i64 (x18+jf))) (1:Int)))/\(wrap .i64 (aH .u64 (wrap .u64 (wrap .i64 (x18+jf))) (1:Int)))< (x4.length:Int)) then (aK x4 (wrap .i64 (aH .u64 (wrap .u64 (wrap .i64 (x18+jf))) (1:Int)))).bind fun (iK:J)=>(cmp ((FQ,iK))).bind fun (jg:Int)=>bif !(decide (jg< (0:Int))) then tu g x2 x4 m ((wrap .i64 ((wrap .i64 (aH .u64 (wrap .u64 (wrap .i64 (x18+jf))) (1:Int)))+(1:Int)),jf))else tu g x2 x4 m ((x18,wrap .i64 (aH .u64 (wrap .u64 (wrap .i64 (x18+jf))) (1:Int))))else none else none else none else some x18)(h21:∀(g:Nat) (oV:Int) (m:Nat) (x24:Int) (x25:List J),DZ g oV (m+1) (x24,x25)=bif decide (x24>oV) then bif decide (0<=(wrap .i64 (x24-(1:Int)))/\(wrap .i64 (x24-(1:Int)))< (x25.length:Int)) then (aK x25 (wrap .i64 (x24-(1:Int)))).bind fun (vV:J)=>bif decide (0<=x24/\x24< (x25.length:Int)) then (aK x25 x24).bind fun (FW:J)=>bif decide (0<=x24/\x24< (x25.length:Int)) then (aK x25 x24).bind fun (Uz:J)=>bif decide (0<=(wrap .i64 (x24-(1:Int)))/\(wrap .i64 (x24-(1:Int)))< (((eX x25 x24 vV).length:Nat):Int)) then (aK (eX x25 x24 vV) (wrap .i64 (x24-(1:Int)))).bind fun (UA:J)=>
        DZ g oV m ((wrap .i64 (x24-(1:Int)),eX (eX x25 x24 vV) (wrap .i64 (x24-(1:Int))) FW))else none else none else none else none else some (((),x25)))(Kz:∀(g:Nat) (x1 x2 x3:Int) (x4:List J) (m:Nat) (x31 x32:Int),qW g x1 x2 x3 x4 (m+1) (x31,x32)=bif decide (x31<x32) then bif decide ((0:Int)<=(1:Int)) then bif decide (0<=(wrap .i64 ((wrap .i64 ((wrap .i64 ((wrap .i64 (aH .u64 (wrap .u64 (wrap .i64 (x1+x3))) (1:Int)))+x2))-(1:Int)))-(wrap .i64 (aH .u64 (wrap .u64 (wrap .i64 (x31+x32))) (1:Int)))))/\(wrap .i64 ((wrap .i64 ((wrap .i64 ((wrap .i64 (aH .u64 (wrap .u64 (wrap .i64 (x1+x3))) (1:Int)))+x2))-(1:Int)))-(wrap .i64 (aH .u64 (wrap .u64 (wrap .i64 (x31+x32))) (1:Int)))))< (x4.length:Int)) then (aK x4 (wrap .i64 ((wrap .i64 ((wrap .i64 ((wrap .i64 (aH .u64 (wrap .u64 (wrap .i64 (x1+x3))) (1:Int)))+x2))-(1:Int)))-(wrap .i64 (aH .u64 (wrap .u64 (wrap .i64 (x31+x32))) (1:Int)))))).bind fun (FX:J)=>bif decide (0<=(wrap .i64 (aH .u64 (wrap .u64 (wrap .i64 (x31+x32))) (1:Int)))/\(wrap .i64 (aH .u64 (wrap .u64 (wrap .i64 (x31+x32))) (1:Int)))< (x4.length:Int)) then (aK x4 (wrap .i64 (aH .u64 (wrap .u64 (wrap .i64 (x31+x32))) (1:Int)))).bind fun (FY:J)=>(cmp ((FX,FY))).bind fun (FZ:Int)=>bif !(decide (FZ< (0:Int))) then qW g x1 x2 x3 x4 m ((wrap .i64 ((wrap .i64 (aH .u64 (wrap .u64 (wrap .i64 (x31+x32))) (1:Int)))+(1:Int)),x32))else qW g x1 x2 x3 x4 m ((x31,wrap .i64 (aH .u64 (wrap .u64 (wrap .i64 (x31+x32))) (1:Int))))else none else none else none else some x31)(hro:∀A U V B:List J,0<U.length->0<V.length->(A++(U++V)++B).length<2^61->U.length+V.length<n->ro ((),(A.length:Int),((A.length+U.length:Nat):Int),((A.length+U.length+V.length:Nat):Int),((),())) (A++(U++V)++B)=some ((),A++(V++U)++B))(hS:∀(g:Nat) (x1 x2 x3:Int) (x4:List J),S (g+1) (((),(x1,(x2,(x3,((),())))))) (x4)=bif (wrap .i64 (x2-x1))==(1:Int) then (L3 g x1 x4 n ((x2,x3))).bind fun (cZ:Int)=>(uN g cZ n ((x1,x4))).bind fun (pU:PUnit×List J)=>some (((),pU.2))else bif (wrap .i64 (x3-x2))==(1:Int) then (tu g x2 x4 n ((x1,x2))).bind fun (oV:Int)=>(DZ g oV n ((x2,x4))).bind fun (O8:PUnit×List J)=>some (((),O8.2))else bif decide ((0:Int)<=(1:Int)) then bif decide (x2> (wrap .i64 (aH .u64 (wrap .u64 (wrap .i64 (x1+x3))) (1:Int)))) then (qW g x1 x2 x3 x4 n ((wrap .i64 ((wrap .i64 ((wrap .i64 (aH .u64 (wrap .u64 (wrap .i64 (x1+x3))) (1:Int)))+x2))-x3),wrap .i64 (aH .u64 (wrap .u64 (wrap .i64 (x1+x3))) (1:Int))))).bind fun (gM:Int)=>bif bif decide (gM<x2) then decide (x2< (wrap .i64 ((wrap .i64 ((wrap .i64 (aH .u64 (wrap .u64 (wrap .i64 (x1+x3))) (1:Int)))+x2))-gM))) else false then (ro (((),(gM,(x2,(wrap .i64 ((wrap .i64 ((wrap .i64 (aH .u64 (wrap .u64 (wrap .i64 (x1+x3))) (1:Int)))+x2))-gM),((),())))))) x4).bind fun (Bo:PUnit×List J)=>bif bif decide (x1<gM) then decide (gM< (wrap .i64 (aH .u64 (wrap .u64 (wrap .i64 (x1+x3))) (1:Int)))) else false then (S g (((),(x1,(gM,(wrap .i64 (aH .u64 (wrap .u64 (wrap .i64 (x1+x3))) (1:Int)),((),())))))) Bo.2).bind fun (F3:PUnit×List J)=>bif bif decide ((wrap .i64 (aH .u64 (wrap .u64 (wrap .i64 (x1+x3))) (1:Int)))< (wrap .i64 ((wrap .i64 ((wrap .i64 (aH .u64 (wrap .u64 (wrap .i64 (x1+x3))) (1:Int)))+x2))-gM))) then decide ((wrap .i64 ((wrap .i64 ((wrap .i64 (aH .u64 (wrap .u64 (wrap .i64 (x1+x3))) (1:Int)))+x2))-gM))<x3) else false then (S g (((),(wrap .i64 (aH .u64 (wrap .u64 (wrap .i64 (x1+x3))) (1:Int)),(wrap .i64 ((wrap .i64 ((wrap .i64 (aH .u64 (wrap .u64 (wrap .i64 (x1+x3))) (1:Int)))+x2))-gM),(x3,((),())))))) F3.2).bind fun (oZ:PUnit×List J)=>some (((),oZ.2))else some (((),F3.2))else bif bif decide ((wrap .i64 (aH .u64 (wrap .u64 (wrap .i64 (x1+x3))) (1:Int)))< (wrap .i64 ((wrap .i64 ((wrap .i64 (aH .u64 (wrap .u64 (wrap .i64 (x1+x3))) (1:Int)))+x2))-gM))) then decide ((wrap .i64 ((wrap .i64 ((wrap .i64 (aH .u64 (wrap .u64 (wrap .i64 (x1+x3))) (1:Int)))+x2))-gM))<x3) else false then (S g (((),(wrap .i64 (aH .u64 (wrap .u64 (wrap .i64 (x1+x3))) (1:Int)),(wrap .i64 ((wrap .i64 ((wrap .i64 (aH .u64 (wrap .u64 (wrap .i64 (x1+x3))) (1:Int)))+x2))-gM),(x3,((),())))))) Bo.2).bind fun (O9:PUnit×List J)=>some (((),O9.2))else some (((),Bo.2))else bif bif decide (x1<gM) then decide (gM< (wrap .i64 (aH .u64 (wrap .u64 (wrap .i64 (x1+x3))) (1:Int)))) else false then (S g (((),(x1,(gM,(wrap .i64 (aH .u64 (wrap .u64 (wrap .i64 (x1+x3))) (1:Int)),((),())))))) x4).bind fun (nT:PUnit×List J)=>bif bif decide ((wrap .i64 (aH .u64 (wrap .u64 (wrap .i64 (x1+x3))) (1:Int)))< (wrap .i64 ((wrap .i64 ((wrap .i64 (aH .u64 (wrap .u64 (wrap .i64 (x1+x3))) (1:Int)))+x2))-gM))) then decide ((wrap .i64 ((wrap .i64 ((wrap .i64 (aH .u64 (wrap .u64 (wrap .i64 (x1+x3))) (1:Int)))+x2))-gM))<x3) else false then (S g (((),(wrap .i64 (aH .u64 (wrap .u64 (wrap .i64 (x1+x3))) (1:Int)),(wrap .i64 ((wrap .i64 ((wrap .i64 (aH .u64 (wrap .u64 (wrap .i64 (x1+x3))) (1:Int)))+x2))-gM),(x3,((),())))))) nT.2).bind fun (Pb:PUnit×List J)=>some (((),Pb.2))else some (((),nT.2))else bif bif decide ((wrap .i64 (aH .u64 (wrap .u64 (wrap .i64 (x1+x3))) (1:Int)))< (wrap .i64 ((wrap .i64 ((wrap .i64 (aH .u64 (wrap .u64 (wrap .i64 (x1+x3))) (1:Int)))+x2))-gM))) then decide ((wrap .i64 ((wrap .i64 ((wrap .i64 (aH .u64 (wrap .u64 (wrap .i64 (x1+x3))) (1:Int)))+x2))-gM))<x3) else false then (S g (((),(wrap .i64 (aH .u64 (wrap .u64 (wrap .i64 (x1+x3))) (1:Int)),(wrap .i64 ((wrap .i64 ((wrap .i64 (aH .u64 (wrap .u64 (wrap .i64 (x1+x3))) (1:Int)))+x2))-gM),(x3,((),())))))) x4).bind fun (Pd:PUnit×List J)=>some (((),Pd.2))else some (((),x4))else (qW g x1 x2 x3 x4 n ((x1,x2))).bind fun (gW:Int)=>bif bif decide (gW<x2) then decide (x2< (wrap .i64 ((wrap .i64 ((wrap .i64 (aH .u64 (wrap .u64 (wrap .i64 (x1+x3))) (1:Int)))+x2))-gW))) else false then (ro (((),(gW,(x2,(wrap .i64 ((wrap .i64 ((wrap .i64 (aH .u64 (wrap .u64 (wrap .i64 (x1+x3))) (1:Int)))+x2))-gW),((),())))))) x4).bind fun (F4:PUnit×List J)=>bif bif decide (x1<gW) then decide (gW< (wrap .i64 (aH .u64 (wrap .u64 (wrap .i64 (x1+x3))) (1:Int)))) else false then (S g (((),(x1,(gW,(wrap .i64 (aH .u64 (wrap .u64 (wrap .i64 (x1+x3))) (1:Int)),((),())))))) F4.2).bind fun (F5:PUnit×List J)=>bif bif decide ((wrap .i64 (aH .u64 (wrap .u64 (wrap .i64 (x1+x3))) (1:Int)))< (wrap .i64 ((wrap .i64 ((wrap .i64 (aH .u64 (wrap .u64 (wrap .i64 (x1+x3))) (1:Int)))+x2))-gW))) then decide ((wrap .i64 ((wrap .i64 ((wrap .i64 (aH .u64 (wrap .u64 (wrap .i64 (x1+x3))) (1:Int)))+x2))-gW))<x3) else false then (S g (((),(wrap .i64 (aH .u64 (wrap .u64 (wrap .i64 (x1+x3))) (1:Int)),(wrap .i64 ((wrap .i64 ((wrap .i64 (aH .u64 (wrap .u64 (wrap .i64 (x1+x3))) (1:Int)))+x2))-gW),(x3,((),())))))) F5.2).bind fun (ac6:PUnit×List J)=>some (((),ac6.2))else some (((),F5.2))else bif bif decide ((wrap .i64 (aH .u64 (wrap .u64 (wrap .i64 (x1+x3))) (1:Int)))< (wrap .i64 ((wrap .i64 ((wrap .i64 (aH .u64 (wrap .u64 (wrap .i64 (x1+x3))) (1:Int)))+x2))-gW))) then decide ((wrap .i64 ((wrap .i64 ((wrap .i64 (aH .u64 (wrap .u64 (wrap .i64 (x1+x3))) (1:Int)))+x2))-gW))<x3) else false then (S g (((),(wrap .i64 (aH .u64 (wrap .u64 (wrap .i64 (x1+x3))) (1:Int)),(wrap .i64 ((wrap .i64 ((wrap .i64 (aH .u64 (wrap .u64 (wrap .i64 (x1+x3))) (1:Int)))+x2))-gW),(x3,((),())))))) F4.2).bind fun (ac7:PUnit×List J)=>some (((),ac7.2))else some (((),F4.2))else bif bif decide (x1<gW) then decide (gW< (wrap .i64 (aH .u64 (wrap .u64 (wrap .i64 (x1+x3))) (1:Int)))) else false then (S g (((),(x1,(gW,(wrap .i64 (aH .u64 (wrap .u64 (wrap .i64 (x1+x3))) (1:Int)),((),())))))) x4).bind fun (Pe:PUnit×List J)=>bif bif decide ((wrap .i64 (aH .u64 (wrap .u64 (wrap .i64 (x1+x3))) (1:Int)))< (wrap .i64 ((wrap .i64 ((wrap .i64 (aH .u64 (wrap .u64 (wrap .i64 (x1+x3))) (1:Int)))+x2))-gW))) then decide ((wrap .i64 ((wrap .i64 ((wrap .i64 (aH .u64 (wrap .u64 (wrap .i64 (x1+x3))) (1:Int)))+x2))-gW))<x3) else false then (S g (((),(wrap .i64 (aH .u64 (wrap .u64 (wrap .i64 (x1+x3))) (1:Int)),(wrap .i64 ((wrap .i64 ((wrap .i64 (aH .u64 (wrap .u64 (wrap .i64 (x1+x3))) (1:Int)))+x2))-gW),(x3,((),())))))) Pe.2).bind fun (ac8:PUnit×List J)=>some (((),ac8.2))else some (((),Pe.2))else bif bif decide ((wrap .i64 (aH .u64 (wrap .u64 (wrap .i64 (x1+x3))) (1:Int)))< (wrap .i64 ((wrap .i64 ((wrap .i64 (aH .u64 (wrap .u64 (wrap .i64 (x1+x3))) (1:Int)))+x2))-gW))) then decide ((wrap .i64 ((wrap .i64 ((wrap .i64 (aH .u64 (wrap .u64 (wrap .i64 (x1+x3))) (1:Int)))+x2))-gW))<x3) else false then (S g (((),(wrap .i64 (aH .u64 (wrap .u64 (wrap .i64 (x1+x3))) (1:Int)),(wrap .i64 ((wrap .i64 ((wrap .i64 (aH .u64 (wrap .u64 (wrap .i64 (x1+x3))) (1:Int)))+x2))-gW),(x3,((),())))))) x4).bind fun (ac9:PUnit×List J)=>some (((),ac9.2))else some (((),x4))else none)
include hc h3 h9 Ky h21 Kz hro hS
theorem sym:∀(g:Nat)(A U V B:List J),gX key U->gX key V->0<U.length->0<V.length->U.length+V.length<g->U.length+V.length<n->(A++(U++(V++B))).length<2^59->
 ∃W,gX key W/\fM key W (U++V)/\W.length=U.length+V.length/\S g ((),(A.length:Int),((A.length+U.length:Nat):Int),((A.length+U.length+V.length:Nat):Int),((),())) (A++(U++(V++B)))=some ((),A++(W++B))
 |0,_,_,_,_,_,_,_,_,h,_,_=>RS|g+1,A,U,V,B,hU,hV,hu,hv,hg,hn,hb=>by
  have hb':=hb;simp only[iP] at hb';rw[hS];by_cases u1:U.length=1
  .obtain⟨x,rfl⟩:=List.length_eq_one_iff.1 u1;obtain⟨V1,V2,rfl,e1,e2,e3⟩:=s3 hc h3 (n:=n) (g:=g) (A:=A) (B:=B) (x:=x) hV KF RS;have hw:gX key (V1++x::V2):=by
    have h1:=List.pairwise_append.1 hV;refine gX.app h1.1 (List.pairwise_cons.2 ⟨fun b hb=>Int.not_lt.1 (e3 b hb),h1.2.1⟩) fun a ha b hb=>?_;rcases iC.1 hb with rfl|hb
    .exact Int.le_of_lt (e2 a ha)
    .exact h1.2.2 a ha b hb
   refine⟨V1++x::V2,hw,?_,pW,?_⟩
   .have:fM key (V1++[x]) ([x]++V1):=fM.swap fun a ha b hb=>by rw[iZ.1 hb];exact e2 a ha
    have:=this.app (fM.refl (key:=key) V2);simpa using this
   .refine lC KH (bd (a:=((A.length+1+V1.length:Nat):Int)) ?_ ?_)
    .rw[<-e1];simp
    .refine bd (a:=((),A++(V1++x::(V2++B)))) ?_ ?_
     .have:=fwd h9 (g:=g) (x:=x) (B:=V2++B) V1 A n KF (by simp only[iP] at hn;omega);rw[<-this];simp
     .simp
  .by_cases v1:V.length=1
   .obtain⟨y,rfl⟩:=List.length_eq_one_iff.1 v1;obtain⟨gY,iB,rfl,e1,e2,e3⟩:=s15 hc Ky (n:=n) (g:=g) (A:=A) (B:=B) (y:=y) hU KF RS;have hw:gX key (gY++y::iB):=by
     have h1:=List.pairwise_append.1 hU;refine gX.app h1.1 (List.pairwise_cons.2 ⟨fun b hb=>Int.le_of_lt (Int.not_le.1 (e3 b hb)),h1.2.1⟩) fun a ha b hb=>?_;rcases iC.1 hb with rfl|hb
     .exact e2 a ha
     .exact h1.2.2 a ha b hb
    have hl2:(gY++iB).length=gY.length+iB.length:=iP;refine⟨gY++y::iB,hw,?_,pW,?_⟩
    .have:fM key ([y]++iB) (iB++[y]):=fM.swap fun a ha b hb=>by rw[iZ.1 ha];exact Int.not_le.1 (e3 b hb)
     have:=(fM.refl (key:=key) gY).app this;simpa using this
    .refine kr KH (lC KH (bd (a:=((A.length+gY.length:Nat):Int)) ?_ ?_))
     .rw[<-e1];simp
     .refine bd (a:=((),A++(gY++(y::(iB++B))))) ?_ ?_
      .have hl2:(gY++iB).length=gY.length+iB.length:=iP;have:=bwd h21 (g:=g) (x:=y) (A:=A++gY) _ iB B n rfl KF RS;rw[show ((A.length+(gY++iB).length:Nat):Int)=(((A++gY).length+iB.length:Nat):Int) by simp only[iP];omega,show ((A.length+gY.length:Nat):Int)=((A++gY).length:Nat) by rw[iP]];simp only[eZ] at this⊢;exact this
      .simp
   ·
    generalize hmid:(A.length+(A.length+U.length+V.length))/2=mid;have key2:∀(lo hi:Nat),A.length<=lo->hi<=A.length+U.length->hi<=mid->mid<=lo+V.length->lo<=hi->(lo=A.length\/mid=lo+V.length)->(hi=A.length+U.length\/hi=mid)->
     ∃(s:Nat) (gY iB V1 V2:List J),qW g (A.length:Int) ((A.length+U.length:Nat):Int) ((A.length+U.length+V.length:Nat):Int) (A++(U++(V++B))) n ((lo:Int),(hi:Int))=some (s:Int)/\U=gY++iB/\V=V1++V2/\s=A.length+gY.length/\mid=s+V1.length/\
      (∀a∈gY,∀b∈V2,key a<=key b)/\(∀a∈V1,∀b∈iB,key a<key b):=by
     intro lo hi q1 q2 q3 q4 q5 q6 q7;obtain⟨s,e1,e2,e3,e4,e5⟩:=aAa hc Kz (g:=g) (n:=n) (A:=A) (U:=U) (V:=V) (B:=B) hmid.symm q1 q2 q3 q4 q5 hb hn;have f1:∀a∈U.take (s-A.length),∀b∈V.drop (mid-s),key a<=key b:=fun a ha b hb=>by obtain⟨i,i1,i2⟩:=adv ha;obtain⟨j,j1,j2⟩:=adw hb;have hj:j<V.length:=(by rw[qx] at j2;exact j2.1);have hs:lo<s:=(by clear e4 e5;omega);obtain⟨u,v,f1,f2,f3⟩:=e4 hs;have g1:=hU.le (i:=i) (j:=s-1-A.length) (by clear f1 f2 f3 e4 e5;omega) i2 f1;have g2:=hV.le (i:=mid-s) (j:=j) j1 f2 j2;exact Int.le_trans g1 (Int.le_trans f3 g2)
     have f2:∀a∈V.take (mid-s),∀b∈U.drop (s-A.length),key a<key b:=fun a ha b hb=>by obtain⟨i,i1,i2⟩:=adv ha;obtain⟨j,j1,j2⟩:=adw hb;have hj:j<U.length:=(by rw[qx] at j2;exact j2.1);have hs:s<hi:=(by clear e4 e5;omega);obtain⟨u,v,f1,f2,f3⟩:=e5 hs;have g1:=hV.le (i:=i) (j:=mid-1-s) (by clear f1 f2 f3 e4 e5;omega) i2 f2;have g2:=hU.le (i:=s-A.length) (j:=j) j1 f1 j2;exact Int.lt_of_le_of_lt g1 (Int.lt_of_lt_of_le f3 g2)
     exact⟨s,U.take (s-A.length),U.drop (s-A.length),V.take (mid-s),V.drop (mid-s),e1,(qz (s-A.length) U).symm,(qz (mid-s) V).symm,by clear e4 e5;rw[jV,wC RS];omega,by clear e4 e5;rw[jV,wC RS];omega,f1,f2⟩
    have part:∀(A' X Y B':List J),gX key X->gX key Y->X.length+Y.length<g->X.length+Y.length<n->(A'++(X++(Y++B'))).length<2^59->∃W,gX key W/\fM key W (X++Y)/\W.length=X.length+Y.length/\
     ((0<X.length/\0<Y.length)->S g ((),(A'.length:Int),((A'.length+X.length:Nat):Int),((A'.length+X.length+Y.length:Nat):Int),((),())) (A'++(X++(Y++B')))=some ((),A'++(W++B')))/\(¬(0<X.length/\0<Y.length)->W=X++Y):=by
     intro A' X Y B' hX hY hg' hn' hb';by_cases hxy:0<X.length/\0<Y.length
     .obtain⟨W,w1,w2,w3,w4⟩:=sym g A' X Y B' hX hY hxy.1 hxy.2 hg' hn' hb';exact⟨W,w1,w2,w3,fun _=>w4,fun h=>absurd hxy h⟩
     .refine⟨X++Y,?_,fM.refl _,by rw[iP],fun h=>absurd h hxy,fun _=>rfl⟩;by_cases hX0:X.length=0
      .rw[lF hX0];exact hY
      .have:Y=[]:=lF RS;rw[this,iV];exact hX
    have rest:∀(s:Nat)(gY iB V1 V2:List J),U=gY++iB->V=V1++V2->s=A.length+gY.length->mid=s+V1.length->(∀a∈gY,∀b∈V2,key a<=key b)->(∀a∈V1,∀b∈iB,key a<key b)->
     ∃W W1 D1 D2,gX key W/\fM key W (U++V)/\W.length=U.length+V.length/\
      (((bif decide ((s:Int)< ((A.length+U.length:Nat):Int)) then decide (((A.length+U.length:Nat):Int)< ((mid+(A.length+U.length)-s:Nat):Int)) else false)=true/\ro ((),(s:Int),((A.length+U.length:Nat):Int),((mid+(A.length+U.length)-s:Nat):Int),((),())) (A++(U++(V++B)))=some ((),D1))\/
        ((bif decide ((s:Int)< ((A.length+U.length:Nat):Int)) then decide (((A.length+U.length:Nat):Int)< ((mid+(A.length+U.length)-s:Nat):Int)) else false)=false/\A++(U++(V++B))=D1))/\
      (((bif decide ((A.length:Int)< (s:Int)) then decide ((s:Int)< (mid:Int)) else false)=true/\S g ((),(A.length:Int),(s:Int),(mid:Int),((),())) D1=some ((),D2))\/
        ((bif decide ((A.length:Int)< (s:Int)) then decide ((s:Int)< (mid:Int)) else false)=false/\D1=D2))/\
      (((bif decide ((mid:Int)< ((mid+(A.length+U.length)-s:Nat):Int)) then decide (((mid+(A.length+U.length)-s:Nat):Int)< ((A.length+U.length+V.length:Nat):Int)) else false)=true/\S g ((),(mid:Int),((mid+(A.length+U.length)-s:Nat):Int),((A.length+U.length+V.length:Nat):Int),((),())) D2=some ((),A++(W++B)))\/
        ((bif decide ((mid:Int)< ((mid+(A.length+U.length)-s:Nat):Int)) then decide (((mid+(A.length+U.length)-s:Nat):Int)< ((A.length+U.length+V.length:Nat):Int)) else false)=false/\D2=A++(W++B)))/\W1=D1:=by
     intro s gY iB V1 V2 aAd eV es em F1 F2;subst aAd eV;simp only[iP] at hb' hg hn hmid hu hv u1 v1;have adA:=List.pairwise_append.1 hU;have adB:=List.pairwise_append.1 hV;obtain⟨W1,a1,a2,a3,a4,a5⟩:=part A gY V1 (iB++(V2++B)) adA.1 adB.1 RS RS pX;obtain⟨W2,b1,b2,b3,b4,b5⟩:=part (A++W1) iB V2 B adA.2.1 adB.2.1 RS RS pX;refine⟨W1++W2,_,A++(gY++(V1++(iB++(V2++B)))),A++(W1++(iB++(V2++B))),?_,?_,pX,?_,?_,?_,rfl⟩
     .refine gX.app a1 b1 fun a ha b hb=>?_;rcases qB.1 (a2.mem ha) with ha|ha<;>rcases qB.1 (b2.mem hb) with hb|hb
      .exact adA.2.2 a ha b hb
      .exact F1 a ha b hb
      .exact Int.le_of_lt (F2 a ha b hb)
      .exact adB.2.2 a ha b hb
     .refine(a2.app b2).trans ?_;have:=((fM.refl (key:=key) gY).app (fM.swap F2)).app (fM.refl (key:=key) V2);simpa using this
     .by_cases hh:0<iB.length/\0<V1.length
      .refine .inl ⟨ady pX pX,?_⟩;have:=hro (A++gY) iB V1 (V2++B) hh.1 hh.2 pX RS;rw[show (s:Int)=((A++gY).length:Nat) by rw[iP];omega,show ((A.length+(gY++iB).length:Nat):Int)=(((A++gY).length+iB.length:Nat):Int) by simp only[iP];omega,
        show ((mid+(A.length+(gY++iB).length)-s:Nat):Int)=(((A++gY).length+iB.length+V1.length:Nat):Int) by simp only[iP];omega]
       simp only[eZ] at this⊢;exact this
      .refine .inr ⟨adz pX,?_⟩;by_cases h0:iB.length=0
       .rw[lF h0];simp
       .have:V1=[]:=lF RS;rw[this];simp
     .by_cases hh:0<gY.length/\0<V1.length
      .refine .inl ⟨ady RS RS,?_⟩;rw[show (s:Int)=((A.length+gY.length:Nat):Int) by omega,show (mid:Int)=((A.length+gY.length+V1.length:Nat):Int) by omega];exact a4 hh
      .exact .inr ⟨adz RS,by rw[a5 hh];simp⟩
     .by_cases hh:0<iB.length/\0<V2.length
      .refine .inl ⟨ady pX pX,?_⟩;rw[show (mid:Int)=((A++W1).length:Nat) by rw[iP];omega,show ((mid+(A.length+(gY++iB).length)-s:Nat):Int)=(((A++W1).length+iB.length:Nat):Int) by simp only[iP];omega,
        show ((A.length+(gY++iB).length+(V1++V2).length:Nat):Int)=(((A++W1).length+iB.length+V2.length:Nat):Int) by simp only[iP];omega]
       have:=b4 hh;simp only[eZ] at this⊢;exact this
      .exact .inr ⟨adz pX,by rw[b5 hh];simp⟩
    have c1:((wrap .i64 (((A.length+U.length:Nat):Int)-(A.length:Int)))==(1:Int))=false:=KH;have c2:((wrap .i64 (((A.length+U.length+V.length:Nat):Int)-((A.length+U.length:Nat):Int)))==(1:Int))=false:=KH;have eN:wrap .i64 ((mid:Int)+((A.length+U.length:Nat):Int))=((mid+(A.length+U.length):Nat):Int):=(by rw[wr RS RS];omega);have eM:=Px (i:=A.length) (j:=A.length+U.length+V.length) RS;rw[hmid] at eM;have eE:∀s:Nat,s<=mid+(A.length+U.length)->s<2^60->wrap .i64 (((mid+(A.length+U.length):Nat):Int)-(s:Int))=((mid+(A.length+U.length)-s:Nat):Int):=fun s h1 h2=>by rw[wr RS RS];omega
    by_cases hmm:mid<A.length+U.length
    .obtain⟨s,gY,iB,V1,V2,k1,k2,k3,k4,k5,k6,k7⟩:=key2 (mid+(A.length+U.length)-(A.length+U.length+V.length)) mid RS RS RS RS RS (.inr RS) (.inr rfl);obtain⟨W,W1,D1,D2,w1,w2,w3,H1,H2,H3,_⟩:=rest s gY iB V1 V2 k2 k3 k4 k5 k6 k7;refine⟨W,w1,w2,w3,kr c1 (kr c2 (ko rfl ?_))⟩;rw[eM,eN];refine lC (decide_eq_true RS) ?_;rw[eE (A.length+U.length+V.length) RS RS];refine bd k1 ?_
     (try dsimp only)
     rw[eE s RS RS];refine uO H1 ?_ (fun q1=>?_)
     .refine uO H2 ?_ (fun q2=>?_)
      .exact uO H3 rfl (fun q3=>BF)
      .subst q2;exact uO H3 rfl (fun q3=>BF)
     .subst q1;refine uO H2 ?_ (fun q2=>?_)
      .exact uO H3 rfl (fun q3=>BF)
      .subst q2;exact uO H3 rfl (fun q3=>BF)
    .obtain⟨s,gY,iB,V1,V2,k1,k2,k3,k4,k5,k6,k7⟩:=key2 A.length (A.length+U.length) RS RS RS RS RS (.inl rfl) (.inl rfl);obtain⟨W,W1,D1,D2,w1,w2,w3,H1,H2,H3,_⟩:=rest s gY iB V1 V2 k2 k3 k4 k5 k6 k7;refine⟨W,w1,w2,w3,kr c1 (kr c2 (ko rfl ?_))⟩;rw[eM,eN];refine kr (decide_eq_false RS) (bd k1 ?_)
     (try dsimp only)
     rw[eE s RS RS];refine uO H1 ?_ (fun q1=>?_)
     .refine uO H2 ?_ (fun q2=>?_)
      .exact uO H3 rfl (fun q3=>BF)
      .subst q2;exact uO H3 rfl (fun q3=>BF)
     .subst q1;refine uO H2 ?_ (fun q2=>?_)
      .exact uO H3 rfl (fun q3=>BF)
      .subst q2;exact uO H3 rfl (fun q3=>BF)
end
end So
end
section
open Go aR
namespace So
variable {J:Type}
def xC (key:J->Int)(bs:Nat)(L:List (List J)):Prop:=∀X∈L,X.length=bs/\gX key X
theorem xC.len {key:J->Int}{bs:Nat}:∀{L:List (List J)},xC key bs L->L.flatten.length=L.length*bs
 | [],_=>aB|X::L,h=>by rw[List.flatten_cons,iP,xC.len (fun Y hY=>h Y (jX _ hY)),(h X (ji ..)).1,List.length_cons,qX];omega
theorem xC.app {key:J->Int}{bs:Nat}{L:List (List J)}{X:List J}(h:xC key bs L)(h1:X.length=bs)(h2:gX key X):xC key bs (L++[X]):=fun Y hY=>by
 rcases qB.1 hY with hY|hY
 .exact h Y hY
 .rw[iZ.1 hY];exact⟨h1,h2⟩
theorem alW (L:List (List J))(X:List J):(L++[X]).flatten=L.flatten++X:=aB
section
variable {key:J->Int}{n:Nat}{ins:Unit×Int×Int×(Unit×Unit)->List J->Option (PUnit×List J)}{sy:Unit×Int×Int×Int×(Unit×Unit)->List J->Option (PUnit×List J)}{L2:Int->Nat->(Int×Int)×List J->Option (Int×List J)}{uN:Int->Int->Nat->(Int×Int)×List J->Option (Int×List J)}{L7:Int->Nat->Int×List J->Option (PUnit×List J)}(hi:∀A W B:List J,(A++(W++B)).length<2^59->W.length+1<n->∃W',gX key W'/\fM key W' W/\W'.length=W.length/\ins ((),(A.length:Int),((A.length+W.length:Nat):Int),((),())) (A++(W++B))=some ((),A++(W'++B)))(hm:∀A U V B:List J,gX key U->gX key V->0<U.length->0<V.length->U.length+V.length<n->(A++(U++(V++B))).length<2^59->∃W,gX key W/\fM key W (U++V)/\W.length=U.length+V.length/\sy ((),(A.length:Int),((A.length+U.length:Nat):Int),((A.length+U.length+V.length:Nat):Int),((),())) (A++(U++(V++B)))=some ((),A++(W++B)))(h2:∀(x1:Int) (m:Nat) (x3 x4:Int) (x5:List J),L2 x1 (m+1) ((x3,x4),x5)=bif decide (x4<=x1) then (ins (((),(x3,(x4,((),()))))) x5).bind fun (r6:PUnit×List J)=>
    L2 x1 m (((x4,wrap .i64 (x4+(20:Int))),r6.2))else some ((x3,x5)))(h7:∀(x1:Int) (m:Nat) (dA:Int) (x10:List J),L7 x1 (m+1) (dA,x10)=bif decide (dA<x1) then (uN x1 dA n ((((0:Int),wrap .i64 ((2:Int)*dA)),x10))).bind fun (fP:Int×List J)=>bif decide ((wrap .i64 (fP.1+dA))<x1) then (sy (((),(fP.1,(wrap .i64 (fP.1+dA),(x1,((),())))))) fP.2).bind fun (r16:PUnit×List J)=>
     L7 x1 m ((wrap .i64 (dA*(2:Int)),r16.2))else L7 x1 m ((wrap .i64 (dA*(2:Int)),fP.2))else some (((),x10)))(h9:∀(x1 dA:Int) (m:Nat) (dI gL:Int) (F6:List J),uN x1 dA (m+1) ((dI,gL),F6)=bif decide (gL<=x1) then (sy (((),(dI,(wrap .i64 (dI+dA),(gL,((),())))))) F6).bind fun (iw:PUnit×List J)=>
    uN x1 dA m (((gL,wrap .i64 (gL+(wrap .i64 ((2:Int)*dA)))),iw.2))else some ((dI,F6)))
include hi hm h2 h7 h9
theorem st2 {N:Nat}(hN:N<2^58)(hn:N+1<n):∀(k:Nat)(L:List (List J))(R:List J)(m:Nat),xC key 20 L->R.length=k->(L.flatten++R).length=N->k<m->
 ∃L' R',xC key 20 L'/\R'.length<20/\fM key (L'.flatten++R') (L.flatten++R)/\(L'.flatten++R').length=N/\L2 (N:Int) m (((L.flatten.length:Int),((L.flatten.length+20:Nat):Int)),L.flatten++R)=some ((L'.flatten.length:Int),L'.flatten++R'):=by
 intro k;induction k using Nat.strongRecOn with
 |_ k ih=>
  intro L R m hL hR hl hk;obtain⟨m,rfl⟩:∃m',m=m'+1:=⟨m-1,RS⟩;have hl':=hl;rw[iP] at hl';rw[h2];by_cases hb:R.length<20
  .exact⟨L,R,hL,hb,fM.refl _,hl,kr (decide_eq_false RS) rfl⟩
  .have hX:(R.take 20).length=20:=oD
   obtain⟨W,w1,w2,w3,w4⟩:=hi L.flatten (R.take 20) (R.drop 20) (by rw[qz];omega) RS;have hY:(R.drop 20).length=R.length-20:=nV;have hf:(L++[W]).flatten=L.flatten++W:=alW L W;obtain⟨L',R',g1,g2,g3,g4,g5⟩:=ih (R.length-20) RS (L++[W]) (R.drop 20) m (hL.app (w3.trans hX) w1) hY (by rw[hf,iP,iP];omega) RS;refine⟨L',R',g1,g2,g3.trans ?_,g4,lC (decide_eq_true RS) (bd (a:=((),L.flatten++(W++R.drop 20))) ?_ ?_)⟩
   .rw[hf,eZ];refine(fM.refl _).app ?_;have:=w2.app (fM.refl (key:=key) (R.drop 20));rw[qz] at this;exact this
   .rw[qz,hX] at w4;exact w4
   .rw[wr RS RS];rw[<-g5,hf,iP,w3,hX,eZ];rfl
theorem aAe {N bs:Nat}(hbs:0<bs)(hbN:bs<N)(hN:N<2^57)(hn:N<n){R:List J}(hR:R.length<bs)(hRs:gX key R):∀(k:Nat)(P L:List (List J))(m:Nat),xC key (2*bs) P->xC key bs L->L.length=k->(P.flatten++(L.flatten++R)).length=N->k<m->
 ∃P' Q,xC key (2*bs) P'/\Q.length<2*bs/\(Q.length<=bs->gX key Q)/\(bs<Q.length->∃X,Q=X++R/\X.length=bs/\gX key X)/\fM key (P'.flatten++Q) (P.flatten++(L.flatten++R))/\(P'.flatten++Q).length=N/\
  uN (N:Int) (bs:Int) m (((P.flatten.length:Int),((P.flatten.length+2*bs:Nat):Int)),P.flatten++(L.flatten++R))=some ((P'.flatten.length:Int),P'.flatten++Q):=by
 intro k;induction k using Nat.strongRecOn with
 |_ k ih=>
  intro P L m hP hL hk hl hm';obtain⟨m,rfl⟩:∃m',m=m'+1:=⟨m-1,RS⟩;have hl':=hl;simp only[iP] at hl';rw[h9]
  match L,hL,hk,hl,hl' with
  | [],_,_,hl,hl'=>simp only[List.flatten_nil,List.length_nil,List.nil_append] at hl'⊢;exact⟨P,R,hP,RS,fun _=>hRs,fun h=>RS,fM.refl _,xH,kr (decide_eq_false RS) rfl⟩
  | [X],hL,_,hl,hl'=>obtain⟨x1,x2⟩:=hL X (ji ..);have e:[X].flatten=X:=aB;rw[e] at hl hl'⊢;refine⟨P,X++R,hP,rW,fun h=>?_,fun h=>⟨X,rfl,x1,x2⟩,fM.refl _,by rw[iP,iP];omega,kr (decide_eq_false RS) rfl⟩;have:R=[]:=lF (by rw[iP] at h;omega);rw[this,iV];exact x2
  |X::Y::L,hL,hk,hl,hl'=>
   obtain⟨x1,x2⟩:=hL X (ji ..);obtain⟨y1,y2⟩:=hL Y (jX _ (ji ..));simp only[List.flatten_cons,eZ,iP] at hl'⊢;obtain⟨W,w1,w2,w3,w4⟩:=hm P.flatten X Y (L.flatten++R) x2 y2 RS RS RS pX;have hf:(P++[W]).flatten=P.flatten++W:=alW P W;obtain⟨P',Q,g1,g2,g3,g4,g5,g6,g7⟩:=ih L.length (by simp only[List.length_cons] at hk;omega) (P++[W]) L m (hP.app RS w1) (fun ZZZ hZ=>hL ZZZ (jX _ (jX _ hZ))) rfl (by rw[hf];simp only[iP];omega) (by simp only[List.length_cons] at hk;omega);refine⟨P',Q,g1,g2,g3,g4,g5.trans ?_,(by simpa using g6),lC (decide_eq_true RS) (bd (a:=((),P.flatten++(W++(L.flatten++R)))) ?_ ?_)⟩
   .rw[hf,eZ];refine(fM.refl _).app ?_;have:=w2.app (fM.refl (key:=key) (L.flatten++R));rw[eZ] at this;exact this
   .rw[wr RS RS,show (P.flatten.length:Int)+(bs:Int)=((P.flatten.length+X.length:Nat):Int) by omega,show ((P.flatten.length+2*bs:Nat):Int)=((P.flatten.length+X.length+Y.length:Nat):Int) by omega];exact w4
   .rw[show wrap .i64 ((2:Int)*(bs:Int))=((2*bs:Nat):Int) by rw[wr RS RS];omega,wr RS RS];rw[<-g7,hf,iP,w3,eZ,show X.length+Y.length=2*bs by omega];rfl
theorem aAf {N:Nat}(hN:N<2^57)(hn:N<n):∀(k bs:Nat)(L:List (List J))(R:List J)(m:Nat),N-bs=k->0<bs->bs<2^58->xC key bs L->R.length<bs->gX key R->(L.flatten++R).length=N->k<m->
 ∃D,gX key D/\fM key D (L.flatten++R)/\D.length=N/\L7 (N:Int) m ((bs:Int),L.flatten++R)=some ((),D):=by
 intro k;induction k using Nat.strongRecOn with
 |_ k ih=>
  intro bs L R m hk hbs hbb hL hR hRs hl hm';obtain⟨m,rfl⟩:∃m',m=m'+1:=⟨m-1,RS⟩;rw[h7];by_cases hb:bs<N
  .obtain⟨P',Q,g1,g2,g3,g4,g5,g6,g7⟩:=aAe hi hm h2 h7 h9 hbs hb hN hn hR hRs L.length [] L n (fun _ h=>bU) hL rfl xH (by have h1:=hL.len;rw[iP] at hl;have:L.length<=L.length*bs:=Nat.le_mul_of_pos_right _ hbs;omega);have e0:((([]:List (List J)).flatten.length:Nat):Int)=0:=rfl;have e1:wrap .i64 ((2:Int)*(bs:Int))=((([]:List (List J)).flatten.length+2*bs:Nat):Int):=by rw[wr RS RS];simp
   have e2:wrap .i64 ((bs:Int)*(2:Int))=((2*bs:Nat):Int):=by rw[wr RS RS];omega
   have alX:fM key (P'.flatten++Q) (L.flatten++R):=g5;have alY:=g6;rw[iP] at alY;by_cases hq:bs<Q.length
   .obtain⟨X,rfl,x1,x2⟩:=g4 hq;clear g4 g3;rw[iP] at alY hq g2;obtain⟨W,w1,w2,w3,w4⟩:=hm P'.flatten X R [] x2 hRs RS RS RS (by simp only[iP,List.length_nil];omega);obtain⟨D,d1,d2,d3,d4⟩:=ih (N-2*bs) RS (2*bs) P' W m rfl RS RS g1 RS w1 rW RS;refine⟨D,d1,(d2.trans ((fM.refl _).app w2)).trans alX,d3,lC (decide_eq_true RS) (bd (a:=((P'.flatten.length:Int),P'.flatten++(X++R))) (by rw[e1];exact g7) ?_)⟩;rw[e2];refine lC (decide_eq_true (by show wrap .i64 ((P'.flatten.length:Int)+(bs:Int))<_;rw[wr RS RS];omega)) (bd (a:=((),P'.flatten++W)) ?_ d4);show sy ((),((P'.flatten.length:Int),(wrap .i64 ((P'.flatten.length:Int)+(bs:Int)),((N:Int),((),()))))) (P'.flatten++(X++R))=_;rw[wr RS RS,show (P'.flatten.length:Int)+(bs:Int)=((P'.flatten.length+X.length:Nat):Int) by omega,show (N:Int)=((P'.flatten.length+X.length+R.length:Nat):Int) by omega];simpa using w4
   .clear g4;have aAg:=g3 RS;clear g3;obtain⟨D,d1,d2,d3,d4⟩:=ih (N-2*bs) RS (2*bs) P' Q m rfl RS RS g1 g2 aAg g6 RS;refine⟨D,d1,d2.trans alX,d3,lC (decide_eq_true RS) (bd (a:=((P'.flatten.length:Int),P'.flatten++Q)) (by rw[e1];exact g7) ?_)⟩;rw[e2];exact kr (decide_eq_false (by show¬wrap .i64 ((P'.flatten.length:Int)+(bs:Int))<_;rw[wr RS RS];omega)) d4
  .refine⟨L.flatten++R,?_,fM.refl _,hl,kr (decide_eq_false RS) rfl⟩;have h1:=hL.len;have hl':=hl;rw[iP] at hl'
   match L,hL,h1,hl' with
   | [],_,_,_=>simpa using hRs| [X],hL,h1,hl'=>have:R=[]:=lF (by simp only[List.length_cons,List.length_nil] at h1;omega);rw[this];simpa using (hL X (ji ..)).2|X::Y::L,_,h1,hl'=>exfalso;simp only[List.length_cons] at h1;have:2*bs<=(L.length+1+1)*bs:=nJ _ RS;omega
variable {st:Unit×Int×(Unit×Unit)->List J->Option (PUnit×List J)}(hs:∀(x1:Int) (x2:List J),st (((),(x1,((),())))) (x2)=
   (L2 x1 n ((((0:Int),(20:Int)),x2))).bind fun (r7:Int×List J)=>(ins (((),(r7.1,(x1,((),()))))) r7.2).bind fun (r8:PUnit×List J)=>(L7 x1 n (((20:Int),r8.2))).bind fun (pU:PUnit×List J)=>some (((),pU.2)))
include hs
theorem stable {D:List J}(hN:D.length<2^57)(hn:D.length+21<n):∃D',gX key D'/\fM key D' D/\D'.length=D.length/\st ((),(D.length:Int),((),())) D=some ((),D'):=by obtain⟨L,R,g1,g2,g3,g4,g5⟩:=st2 hi hm h2 h7 h9 (N:=D.length) RS RS _ [] D n (fun _ h=>bU) rfl rfl RS;have hl:=g4;rw[iP] at hl;obtain⟨R',r1,r2,r3,r4⟩:=hi L.flatten R [] (by simp only[iP,List.length_nil];omega) RS;obtain⟨D',d1,d2,d3,d4⟩:=aAf hi hm h2 h7 h9 hN RS _ 20 L R' n rfl RS RS g1 RS r1 rW RS;refine⟨D',d1,(d2.trans ((fM.refl _).app r2)).trans g3,d3,?_⟩;rw[hs];refine bd (a:=((L.flatten.length:Int),L.flatten++R)) g5 (bd (a:=((),L.flatten++R')) ?_ (bd (a:=((),D')) d4 rfl));show ins ((),((L.flatten.length:Int),((D.length:Int),((),())))) (L.flatten++R)=_;rw[show (D.length:Int)=((L.flatten.length+R.length:Nat):Int) by omega];simpa using r4
end
end So
end
section
open Go Go.Proofs aR
namespace Sh
theorem aAh (n:Nat)(a b:Int):∃r:Int,J5 n (a,b)=some r/\(r<0↔a<b):=by
 have h1:∀x:Int,ZZ n x=some false:=fun x=>(ayv n x).trans (congrArg (@some Bool) aB);have key:∀z:Option Int,(bif decide (a<b) then some (-1:Int) else bif decide (a>b) then some (1:Int) else some (0:Int))=z->J5 n (a,b)=z:=fun z hz=>by rw[ayw];exact So.bd (h1 a) (So.bd (h1 b) hz)
 by_cases e1:a<b
 .exact⟨-1,key _ (So.lC (decide_eq_true e1) rfl),RS⟩
 .by_cases e2:a>b
  .exact⟨1,key _ (So.kr (decide_eq_false e1) (So.lC (decide_eq_true e2) rfl)),RS⟩
  .exact⟨0,key _ (So.kr (decide_eq_false e1) (So.kr (decide_eq_false e2) rfl)),RS⟩
theorem aAi (n:Nat):So.Pv (fun e:Entry=>e.ID) (fun p=>zW n p):=fun a b=>by
 obtain⟨r,h1,h2⟩:=aAh n a.ID b.ID;exact⟨r,(ayx n a b).trans (So.bd h1 rfl),h2⟩
theorem aAj {n:Nat}{D:List Entry}(hN:D.length<2^57)(hn:D.length+21<n):∃D',So.gX (fun e:Entry=>e.ID) D'/\So.fM (fun e:Entry=>e.ID) D' D/\D'.length=D.length/\
 OE n (((),((),()))) D=some ((),D'):=by
 have hc:=aAi n;have h4:=fun x1 x2 x4 m x6 x7=>ayy n x1 x2 x4 m x6 x7;have h1:=fun x1 x2 m x4 x5=>ayz n x1 x2 m x4 x5;have hsw:∀(A X M Y B:List Entry),X.length=Y.length->(A++X++M++Y++B).length<2^61->X.length<n->DF n ((),(A.length:Int),((A.length+X.length+M.length:Nat):Int),(X.length:Int),((),())) (A++X++M++Y++B)=some ((),A++Y++M++X++B):=fun A X M Y B e hb hn=>by rw[ayC];have:=So.alV (J:=Entry) (L1:=fun a b c m p=>O5 n a b c m p) (fun x1 x2 x3 m x5 x6=>ayB n x1 x2 x3 m x5 x6) (A:=A) (M:=M) (B:=B) X Y [] [] n e rfl Gg hn;simp only[List.nil_append,List.length_nil,nX] at this;exact So.bd (a:=((),A++Y++M++X++B)) this rfl
 have hro:∀A U V B:List Entry,0<U.length->0<V.length->(A++(U++V)++B).length<2^61->U.length+V.length<n->FP n ((),(A.length:Int),((A.length+U.length:Nat):Int),((A.length+U.length+V.length:Nat):Int),((),())) (A++(U++V)++B)=some ((),A++(V++U)++B):=fun A U V B hu hv hb hn=>by rw[ayE];simp only[iP] at hb;rw[So.wr RS RS,So.wr RS RS,show ((A.length+U.length:Nat):Int)-(A.length:Int)=(U.length:Int) by omega,show ((A.length+U.length+V.length:Nat):Int)-((A.length+U.length:Nat):Int)=(V.length:Int) by omega];exact So.az8 (J:=Entry) (n:=n) (Pw:=fun p q=>DF n p q) hsw (L2:=fun a m p=>Ki n a m p) (fun x2 m x5 x6 x7=>ayD n x2 m x5 x6 x7) hu hv pX hn
 have hi:∀A W B:List Entry,(A++(W++B)).length<2^59->W.length+1<n->∃W',So.gX (fun e:Entry=>e.ID) W'/\So.fM (fun e:Entry=>e.ID) W' W/\W'.length=W.length/\zX n ((),(A.length:Int),((A.length+W.length:Nat):Int),((),())) (A++(W++B))=some ((),A++(W'++B)):=fun A W B hb hn=>by obtain⟨W',w1,w2,w3,w4⟩:=So.az4 (J:=Entry) (cmp:=fun p=>zW n p) hc (L4:=fun a b c m p=>O1 n a b c m p) h4 (n:=n) (L1:=fun a b m p=>O4 n a b m p) h1 (A:=A) (W:=W) (B:=B) RS hn;refine⟨W',w1,w2,w3,?_⟩;rw[ayA];exact So.bd (a:=((),A++(W'++B))) w4 rfl
 have hm:∀A U V B:List Entry,So.gX (fun e:Entry=>e.ID) U->So.gX (fun e:Entry=>e.ID) V->0<U.length->0<V.length->U.length+V.length<n->(A++(U++(V++B))).length<2^59->∃W,So.gX (fun e:Entry=>e.ID) W/\So.fM (fun e:Entry=>e.ID) W (U++V)/\W.length=U.length+V.length/\
  Bl n ((),(A.length:Int),((A.length+U.length:Nat):Int),((A.length+U.length+V.length:Nat):Int),((),())) (A++(U++(V++B)))=some ((),A++(W++B)):=fun A U V B hU hV hu hv hn hb=>by
  obtain⟨W,w1,w2,w3,w4⟩:=So.sym (J:=Entry) (cmp:=fun p=>zW n p) hc (n:=n) (L3:=fun g a l m p=>Kj n g a l m p) (uN:=fun g a m p=>O6 n g a m p) (tu:=fun g a l m p=>Kk n g a l m p) (DZ:=fun g a m p=>O7 n g a m p) (qW:=fun g a b c l m p=>FV n g a b c l m p)
   (ro:=fun p q=>FP n p q) (S:=fun g p q=>lg n g p q)
   (fun g x1 x4 m x5 x6=>ayF n g x1 x4 m x5 x6) (fun g r m x y=>ayG n g r m x y) (fun g x2 x4 m x y=>ayH n g x2 x4 m x y) (fun g r m x y=>ayI n g r m x y) (fun g x1 x2 x3 x4 m x y=>ayJ n g x1 x2 x3 x4 m x y) hro
   (fun g x1 x2 x3 x4=>ayK n g x1 x2 x3 x4) n A U V B hU hV hu hv hn hn hb
  exact⟨W,w1,w2,w3,by unfold Bl;exact w4⟩
 obtain⟨D',d1,d2,d3,d4⟩:=So.stable (J:=Entry) (key:=fun e:Entry=>e.ID) (n:=n) (ins:=fun p q=>zX n p q) (sy:=fun p q=>Bl n p q) (L2:=fun a m p=>Pf n a m p) (uN:=fun a b m p=>Pg n a b m p) (L7:=fun a m p=>Kl n a m p) hi hm
  (fun x1 m x3 x4 x5=>ayL n x1 m x3 x4 x5) (fun x1 m x y=>ayN n x1 m x y) (fun x1 dA m a b c=>ayM n x1 dA m a b c) (st:=fun p q=>OD n p q) (fun x1 x2=>ayO n x1 x2) (D:=D) hN hn
 refine⟨D',d1,d2,d3,?_⟩;rw[ayP];exact So.bd (a:=((),D')) d4 rfl
def UK (a:Snapshot)(r:Row):Bool:=bif bif bif decide (r.Entry.From<=a.Day) then decide (a.Day<r.Entry.To) else false then decide (r.Entry.fQ<=a.aN) else false then bif r.eB==(0:Int) then true else decide (r.eB>a.aN) else false
def xD (a:Snapshot)(l:List Row):List Entry:=(l.filter (UK a)).map (·.Entry)
theorem aAk {n:Nat}{b:Book}{a:Snapshot}(hb:b.Rows.length<2^29):∀(k i:Nat)(acc:List Entry)(m:Nat),i+k=b.Rows.length->acc.length<=i->k<m->
 Km n b a m (((),(i:Int)),acc)=some ((),acc++xD a (b.Rows.drop i)):=by
 intro k;induction k with
 |zero=>
  intro i acc m hi _ hm;obtain⟨m,rfl⟩:∃m',m=m'+1:=⟨m-1,RS⟩;obtain rfl:i=b.Rows.length:=RS
  rw[ali];refine So.kr (decide_eq_false RS) ?_;rw[List.drop_length];simp[xD]
 |succ k ih=>
  intro i acc m hi ha hm;obtain⟨m,rfl⟩:∃m',m=m'+1:=⟨m-1,RS⟩;have hlt:i<b.Rows.length:=RS
  have hx:b.Rows[i]? =some b.Rows[i]:=gG hlt;rw[ali,fU RS,nW hlt];refine So.lC (decide_eq_true RS) (So.bd (fF hx) ?_);cases hv:UK a b.Rows[i] with
  |true=>refine So.lC hv (So.ko (Nv PE RS) ?_);rw[ih (i+1) (acc++[b.Rows[i].Entry]) m RS (by rw[iP];simp only[List.length_cons,List.length_nil];omega) RS];unfold xD;rw[List.filter_cons_of_pos hv,iA,eZ];rfl|false=>refine So.kr hv ?_;rw[ih (i+1) acc m RS RS RS];unfold xD;rw[List.filter_cons_of_neg (by rw[hv];simp)]
theorem alZ {n:Nat}{b:Book}{a:Snapshot}(hb:b.Rows.length<2^29)(hn:b.Rows.length+21<n):∃D,So.gX (fun e:Entry=>e.ID) D/\So.fM (fun e:Entry=>e.ID) D (xD a b.Rows)/\J8 n (b,a)=some D/\D.length<=b.Rows.length:=by
 have hl:(xD a b.Rows).length<=b.Rows.length:=by unfold xD;rw[eU];exact List.length_filter_le _ _
 obtain⟨D,d1,d2,d3,d4⟩:=aAj (n:=n) (D:=xD a b.Rows) RS RS;refine⟨D,d1,d2,?_,by rw[d3];exact hl⟩;rw[ayQ];refine So.bd (a:=((),xD a b.Rows)) ?_ (So.bd (a:=((),D)) d4 rfl);have:=aAk (n:=n) (a:=a) hb b.Rows.length 0 [] n RS (mF _) RS;simpa using this
end Sh
end
section
open Go Go.Proofs aR
namespace Sh
set_option maxRecDepth 100000
attribute [local irreducible] pR
theorem al0 {n:Nat}{l:List Gone}(hn:2^20<n)(hl:l.length<=65536)(hr:∀g∈l,Kr g):J4 n l=some (l.map zY):=by
 have k1:∀(k j m:Nat)(a:List aC),j+k=l.length->k<m->a.length<=j->OZ n l m (a,(j:Int))=some (a++(l.drop j).map zY):=by
  intro k;induction k with
  |zero=>intro j m a hj hm ha;obtain⟨m,rfl⟩:∃m',m=m'+1:=⟨m-1,RS⟩;rw[alh,mD RS,nZ RS,List.map_nil,iV];rfl
  |succ k ih=>
   intro j m a hj hm ha;obtain⟨m,rfl⟩:∃m',m=m'+1:=⟨m-1,RS⟩;have hlt:j<l.length:=RS
   have hy:l[j]? =some l[j]:=gG hlt;have hg:=hr _ (lX hlt);rw[nW hlt,iA];generalize l[j]=g at hy hg⊢;rw[alh,jm hy,fU RS,cond_true];have:=ih (j+1) m (a++[zY g]) RS RS wh;rw[eZ] at this;exact bs (fF hy) (bs (alA hg hn) (gR (FE dP aL) this))
 rw[ayo];exact bs (k1 l.length 0 n [] RS RS aB) (by rw[qC];rfl)
theorem aAl {n:Nat}{l:List Gone}(hn:2^20<n)(hl:l.length<=65536)(hr:∀g∈l,Kr g):Ot n l=some (lq n (l.map zY)):=by rw[ayr];exact bs (al0 hn hl hr) (bs (UC hn Qc) rfl)
theorem aAm {n:Nat}{l:List Gone}{k:Nat}{g:Gone}(hn:2^20<n)(hl:l.length<=65536)(hr:∀g∈l,Kr g)(hg:l[k]? =some g):∃p:List aC,Ow n (l,(k:Int))=some (p,(0:Int))/\Oz n (lq n (l.map zY),((l.length:Int),((k:Int),(g,p))))=some true:=by
 have hk:=ou hg;have hx:(l.map zY)[k]? =some (zY g):=by rw[List.getElem?_map,hg];rfl
 obtain⟨p,e1,e2⟩:=ay3 (n:=n) (l:=l.map zY) (i:=k) hn Qc (by rw[eU];exact hk);have h:=ay6 hn Qc hx e2 e1;rw[eU] at h;refine⟨p,?_,?_⟩
 .rw[ayt];exact bs (al0 hn hl hr) (bs e1 rfl)
 .rw[ayu];exact bs (alA (hr g (uU hg)) hn) (bs h rfl)
theorem aAn {J:Type}{p:J->Bool}{l:List J}{i:Nat}{x:J}(hx:l[i]? =some x)(hp:p x=true):(l.filter p)[((l.take i).filter p).length]? =some x:=by
 have hlt:=ou hx;have e:l=l.take i++x::l.drop (i+1):=by
  have h1:=qz i l;rw[nW hlt] at h1;have h2:l[i]=x:=by rw[gG hlt] at hx;exact jW hx
  rw[h2] at h1;exact h1.symm
 have e2:l.filter p=(l.take i).filter p++x::(l.drop (i+1)).filter p:=by
  conv=>lhs;rw[e]
  rw[BK,List.filter_cons_of_pos hp]
 rw[e2,List.getElem?_append_right (mF _),Nat.sub_self];rfl
theorem aAo {J:Type}{p:J->Bool}{l:List J}{i:Nat}{x:J}(hx:l[i]? =some x):((l.take (i+1)).filter p).length=((l.take i).filter p).length+(if p x=true then 1 else 0):=by
 rw[List.take_succ,hx,BK,iP];congr 1;show (List.filter p [x]).length=_;cases hp:p x
 .rw[List.filter_cons_of_neg (by rw[hp];simp)];rfl
 .rw[List.filter_cons_of_pos hp];rfl
end Sh
end
section
open Go Go.Proofs aR
namespace Sh
set_option maxRecDepth 100000
attribute [local irreducible] pR
theorem al1 (n:Nat):Dx n (())=some true:=awE n ()
theorem aAp {J:Type}{c:Bool}{a b r:Option J}(h:c=true->a=r)(k:c=false->b=r):(bif c then a else b)=r:=by
 cases c
 .exact k rfl
 .exact h rfl
theorem al2 {D D':List Entry}(h:So.fM (fun e:Entry=>e.ID) D D'){x:Entry}:x∈D↔x∈D':=by
 have key:∀A B:List Entry,So.fM (fun e:Entry=>e.ID) A B->x∈A->x∈B:=fun A B h hx=>by have hm:x∈A.filter (fun a=>a.ID==x.ID):=uT.2 ⟨hx,aB⟩;rw[h x.ID] at hm;exact(uT.1 hm).1
 exact⟨key _ _ h,key _ _ (fun k=>(h k).symm)⟩
abbrev uP (x3:Int)(b:Book):Int:=Int.tmod (wrap .i64 x3) (wrap .i64 (b.aN+(1:Int)))
def nE (x3:Int)(b:Book):List Gone:=(b.Rows.filter (nC (DY b) (uP x3 b))).map DX
def Aa (x3:Int)(b:Book):List Row:=b.Rows.filter fun r=>!nC (DY b) (uP x3 b) r
def cntF (x3:Int)(b:Book)(i:Nat):Nat:=((b.Rows.take i).filter (nC (DY b) (uP x3 b))).length
def UL (r:Row):Prop:=xA r.Entry/\o7 r.Entry.Vec r.Entry.aY/\rI r.eB
theorem al3 {x3:Int}{b:Book}:(nE x3 b).length<=b.Rows.length:=by unfold nE;rw[eU];exact List.length_filter_le _ _
theorem al4 {x3:Int}{b:Book}(hr:∀r∈b.Rows,UL r):∀g∈nE x3 b,Kr g:=by intro g hg;unfold nE at hg;obtain⟨r,h1,rfl⟩:=tH.1 hg;obtain⟨q1,_,q3⟩:=hr r (uT.1 h1).1;exact⟨q1.1.1,q1.1.2.1,q1.1.2.2.2.2.2.2,q3⟩
theorem aAq {x3:Int}{b:Book}:(Aa x3 b).length+(nE x3 b).length=b.Rows.length:=by have h:=(List.filter_append_perm (nC (DY b) (uP x3 b)) b.Rows).length_eq;rw[iP] at h;unfold Aa nE;rw[eU];omega
theorem aAr {n:Nat}{x3:Int}{x4:Snapshot}{b xb:Book}{ok:Bool}(hn:2^20<n)(hb:b.Rows.length<=65536)(hr:∀r∈b.Rows,UL r):∀(k i m:Nat),i+k=b.Rows.length->k<m->
 Kn n x3 x4 (b,ok) (xb,(nE x3 b,(0:Int))) (lq n ((nE x3 b).map zY)) m (((cntF x3 b i:Nat):Int),(i:Int))=some (.inl (((nE x3 b).length:Nat):Int)):=by
 have hgl:=al3 (x3:=x3) (b:=b);intro k;induction k with
 |zero=>
  intro i m hi hm;obtain⟨m,rfl⟩:∃m',m=m'+1:=⟨m-1,RS⟩;rw[alm];refine mP (decide_eq_false (by show¬(i:Int)< ((b.Rows.length:Nat):Int);omega)) ?_;have:cntF x3 b i=(nE x3 b).length:=by unfold cntF nE;rw[qZ RS,eU]
  rw[this]
 |succ k ih=>
  intro i m hi hm;obtain⟨m,rfl⟩:∃m',m=m'+1:=⟨m-1,RS⟩;have hlt:i<b.Rows.length:=RS
  have hg:b.Rows[i]? =some b.Rows[i]:=gG hlt;have hrr:=hr _ (lX hlt);generalize b.Rows[i]=r at hg hrr;obtain⟨q1,q2,q3⟩:=hrr;have hcs:=aAo (p:=nC (DY b) (uP x3 b)) hg;have hcl:cntF x3 b i<=65536:=eO (List.length_filter_le _ _) oD;have h':=ih (i+1) m RS RS;rw[alm,fU (i:=i) RS];refine kG (jm hg) (bs (azr (b:=b) (f:=uP x3 b) hg RS RS) ?_);cases hp:nC (DY b) (uP x3 b) r with
  |false=>
   rw[hp] at hcs;have e:cntF x3 b (i+1)=cntF x3 b i:=by unfold cntF;rw[hcs];simp
   rw[e] at h';exact kG rfl h'
  |true=>
   rw[hp] at hcs;have e:cntF x3 b (i+1)=cntF x3 b i+1:=by unfold cntF;rw[hcs];simp
   rw[e] at h';have hgo:(nE x3 b)[cntF x3 b i]? =some (DX r):=by unfold nE cntF;rw[List.getElem?_map,aAn hg hp];rfl
   have hck:=ou hgo;obtain⟨p,e1,e2⟩:=aAm hn RS (al4 hr) hgo;refine mP rfl (bs e1 (kG ?_ (kG rfl (bs (fF hgo) (bs (fF hg) (bs (alz q1 q2 hn) (kG ?_ (bs (fF hgo) (bs e2 (mP rfl ?_))))))))))
   .show (!(decide (((cntF x3 b i:Nat):Int)>=(((nE x3 b).length:Nat):Int))))=true;rw[decide_eq_false RS];rfl
   .simp
   .rw[fU (i:=cntF x3 b i) RS];exact h'
def KA (e y:Entry):Bool:=bif y.ID==e.ID then y.eu==e.eu else false
theorem aAs {n:Nat}{x4:Snapshot}{r7:Book×(List Gone)×Int}{D1 D2:List Entry}{j:Nat}{e:Entry}(hj:D1[j]? =some e)(hb:D2.length<2^62):∀(k i m:Nat)(t:Bool),i+k=D2.length->k<m->
 F7 n x4 r7 D1 D2 (j:Int) m (t,(i:Int))=some (t||(D2.drop i).any (KA e)):=by
 intro k;induction k with
 |zero=>intro i m t hi hm;obtain⟨m,rfl⟩:∃m',m=m'+1:=⟨m-1,RS⟩;rw[aln,decide_eq_false RS,nZ RS];simp
 |succ k ih=>
  intro i m t hi hm;obtain⟨m,rfl⟩:∃m',m=m'+1:=⟨m-1,RS⟩;have hlt:i<D2.length:=RS
  have hg:D2[i]? =some D2[i]:=gG hlt;rw[aln,jm hg,cond_true,fU (i:=i) RS,nW hlt,List.any_cons];generalize D2[i]=y at hg;cases t with
  |true=>have:=ih (i+1) m true RS RS;rw[Bool.true_or] at this⊢;exact mP rfl this|false=>
   refine kG rfl (bs (fF hg) (bs (fF hj) ?_));rw[Bool.false_or];unfold KA;cases hid:y.ID==e.ID with
   |false=>have:=ih (i+1) m false RS RS;exact mP rfl this|true=>have:=ih (i+1) m (y.eu==e.eu) RS RS;exact kG rfl (bs (fF hg) (bs (fF hj) this))
noncomputable def Py (c:Int)(e:Entry)(g:Gone):Bool:=bif g.ID==e.ID then (bif g.eu==e.eu then (bif (bif decide (g.fQ<=c) then decide (c<g.eB) else false) then zJ g.Leaf (Pp e) else false) else false) else false
theorem aAt {n:Nat}{x4:Snapshot}{r7:Book×(List Gone)×Int}{D1 D2:List Entry}{j:Nat}{e:Entry}(hn:2^20<n)(hj:D1[j]? =some e)(he:xA e)(ht:o7 e.Vec e.aY)(hb:r7.2.1.length<2^62):∀(k i m:Nat)(t:Bool),i+k=r7.2.1.length->k<m->
 Bp n x4 r7 D1 D2 (j:Int) m (t,(i:Int))=some (t||(r7.2.1.drop i).any (Py x4.aN e)):=by
 intro k;induction k with
 |zero=>intro i m t hi hm;obtain⟨m,rfl⟩:∃m',m=m'+1:=⟨m-1,RS⟩;rw[alo,decide_eq_false RS,nZ RS];simp
 |succ k ih=>
  intro i m t hi hm;obtain⟨m,rfl⟩:∃m',m=m'+1:=⟨m-1,RS⟩;have hlt:i<r7.2.1.length:=RS
  have hg:r7.2.1[i]? =some r7.2.1[i]:=gG hlt;rw[alo,jm hg,cond_true,fU (i:=i) RS,nW hlt,List.any_cons];generalize r7.2.1[i]=g at hg;cases t with
  |true=>have:=ih (i+1) m true RS RS;rw[Bool.true_or] at this⊢;exact mP rfl this|false=>
   have hF:=ih (i+1) m false RS RS;refine kG rfl (bs (fF hg) (bs (fF hj) ?_));rw[Bool.false_or];unfold Py;cases h1:g.ID==e.ID with
   |false=>exact mP rfl hF|true=>
    refine kG rfl (bs (fF hg) (bs (fF hj) ?_));cases h2:g.eu==e.eu with
    |false=>exact mP rfl hF|true=>
     refine kG rfl (bs (fF hg) (bs (ayR n g x4.aN) ?_));cases h3:(bif decide (g.fQ<=x4.aN) then decide (x4.aN<g.eB) else false) with
     |false=>exact mP rfl hF|true=>have:=ih (i+1) m (zJ g.Leaf (Pp e)) RS RS;rw[ada] at this;exact kG rfl (bs (fF hg) (bs (fF hj) (bs (azl he ht hn) (this.trans (by rw[<-ada];rfl)))))
theorem aAu {n:Nat}{x4:Snapshot}{r7:Book×(List Gone)×Int}{D1 D2:List Entry}(hn:2^20<n)(hD1:D1.length<=65536)(hD2:D2.length<=65536)(hG:r7.2.1.length<=65536)(hr:∀e∈D1,xA e/\o7 e.Vec e.aY)(hk:∀e∈D1,(D2.any (KA e)||r7.2.1.any (Py x4.aN e))=true):
 ∀(k i m:Nat),i+k=D1.length->k<m->Pk n x4 r7 D1 D2 m (i:Int)=some (.inl ()):=by
 intro k;induction k with
 |zero=>intro i m hi hm;obtain⟨m,rfl⟩:∃m',m=m'+1:=⟨m-1,RS⟩;rw[alp,decide_eq_false RS];rfl
 |succ k ih=>
  intro i m hi hm;obtain⟨m,rfl⟩:∃m',m=m'+1:=⟨m-1,RS⟩;have hlt:i<D1.length:=RS
  have hg:D1[i]? =some D1[i]:=gG hlt;have hm1:=lX hlt;generalize D1[i]=e at hg hm1;have h1:=aAs (n:=n) (x4:=x4) (r7:=r7) (D2:=D2) hg RS D2.length 0 n false RS RS;have h2:=aAt (n:=n) (x4:=x4) (r7:=r7) (D2:=D2) hn hg (hr e hm1).1 (hr e hm1).2 RS r7.2.1.length 0 n (D2.any (KA e)) RS RS;rw[qC,Bool.false_or] at h1;rw[qC,hk e hm1] at h2;rw[alp,jm hg,cond_true,fU (i:=i) RS];exact bs h1 (bs h2 (mP rfl (ih (i+1) m RS RS)))
theorem aAv {n:Nat}{s:aG}{b:Book}(hb:o8 n s b){r:Row}(hr:r∈b.Rows):UL r:=by obtain⟨h0,h1,h2,h3⟩:=hb.row r hr;have hc:=hb.commit;have hd:=hb.days;exact⟨F8.all h1.2.2.2.2.2 KQ,h1.2.2.2.2.1,KQ⟩
theorem aAw {n:Nat}{x1:aG}{x2:List Event}{x3:Int}{x4:Snapshot}(hn:2^20<n)(hs:rR x1 n)(hl:x2.length<n)(hb:x2.length<2^62)(he:∀e∈x2,ado e n)(NC:0<=x3)(h31:x3<256):
 Uw n (x1,(x2,(x3,x4)))=some true:=by
 obtain⟨q,hq,q1⟩:=azY (n:=n) (s:=x1) (l:=x2) hn hs hl hb he;rw[ayV];refine bs hq (aAp (fun _=>bs (al1 n) rfl) (fun hc=>?_));have hq2:q.2=true:=by
  cases h:q.2 with
  |true=>rfl|false=>rw[h] at hc;simp at hc
 have hB:o8 n x1 q.1:=q1 hq2;obtain⟨b,ok⟩:=q;have hB:o8 n x1 b:=hB;have hcm:=hB.commit;have hdy:=hB.days;have al5:=hB.rows;have hrr:∀r∈b.Rows,UL r:=fun r hr=>aAv hB hr;have hw:wrap .i64 (b.aN+(1:Int))=b.aN+1:=iy RS RS;have hw3:wrap .i64 x3=x3:=iy RS RS;have hf0:0<=uP x3 b:=by unfold uP;rw[hw,hw3];exact Int.tmod_nonneg _ NC
 have hf1:uP x3 b<=b.aN:=by
  have:uP x3 b<b.aN+1:=by unfold uP;rw[hw,hw3];exact Int.tmod_lt_of_pos _ RS
  omega
 have hF:=azq (n:=n) (b:=b) (f:=uP x3 b) hn al5 (fun r hr=>⟨(hrr r hr).1,(hrr r hr).2.1⟩) hf0 hf1;have hgl:=al3 (x3:=x3) (b:=b);have hkl:=aAq (x3:=x3) (b:=b);refine kG ?_ (bs hF (mP rfl (bs (aAl (l:=nE x3 b) hn RS (al4 hrr)) (bs (aAr (x4:=x4) hn al5 hrr b.Rows.length 0 n RS RS) ?_))))
 .show (!((wrap .i64 (b.aN+(1:Int)))==(0:Int)))=true;rw[hw];have:(b.aN+1==(0:Int))=false:=by rw[beq_eq_false_iff_ne];omega
  rw[this];rfl
 obtain⟨D1,_,s1,v1,n1⟩:=alZ (n:=n) (b:=b) (a:=x4) RS RS;obtain⟨D2,_,s2,v2,n2⟩:=alZ (n:=n) (b:=(⟨b.aG,b.aN,b.Day,b.bn,Aa x3 b⟩:Book)) (a:=x4) (by show (Aa x3 b).length<_;omega) (by show (Aa x3 b).length+21<_;omega);have n2:D2.length<=(Aa x3 b).length:=n2;have s2:So.fM (fun e:Entry=>e.ID) D2 (xD x4 (Aa x3 b)):=s2;have hD1:∀e∈D1,∃r∈b.Rows,UK x4 r=true/\r.Entry=e:=fun e he=>by have:=(al2 s1).1 he;unfold xD at this;obtain⟨r,h1,h2⟩:=tH.1 this;exact⟨r,(uT.1 h1).1,(uT.1 h1).2,h2⟩
 have hkept:∀e∈D1,(D2.any (KA e)||(nE x3 b).any (Py x4.aN e))=true:=fun e he=>by
  obtain⟨r,hr,hv,rfl⟩:=hD1 e he;cases hp:nC (DY b) (uP x3 b) r with
  |false=>have hm:r.Entry∈D2:=(al2 s2).2 (by unfold xD Aa;exact tH.2 ⟨r,uT.2 ⟨uT.2 ⟨hr,by rw[hp];rfl⟩,hv⟩,rfl⟩);rw[List.any_eq_true.2 ⟨r.Entry,hm,by unfold KA;simp⟩,Bool.true_or]|true=>
   have hm:DX r∈nE x3 b:=by unfold nE;exact tH.2 ⟨r,uT.2 ⟨hr,hp⟩,rfl⟩
   have hd:r.eB>=1:=by unfold nC at hp;simp only[aZ,decide_eq_true_eq] at hp;exact hp.1.1
   have aAx:(bif decide (r.Entry.fQ<=x4.aN) then decide (x4.aN<r.eB) else false)=true:=by
    unfold UK at hv;have hz:(r.eB==(0:Int))=false:=(by rw[beq_eq_false_iff_ne];omega);rw[hz] at hv;cases c1:(bif decide (r.Entry.From<=x4.Day) then decide (x4.Day<r.Entry.To) else false) with
    |false=>rw[c1] at hv;simp at hv|true=>
     rw[c1] at hv;cases c2:decide (r.Entry.fQ<=x4.aN) with
     |false=>rw[c2] at hv;simp at hv|true=>rw[c2] at hv;have:decide (r.eB>x4.aN)=true:=hv;exact decide_eq_true (of_decide_eq_true this)
   rw[List.any_eq_true.2 ⟨DX r,hm,?_⟩,Bool.or_true];unfold Py DX;rw[beq_self_eq_true,cond_true,beq_self_eq_true,cond_true,aAx,cond_true];exact(alr _ _).2 rfl
 refine mP ?_ (bs v1 (bs v2 (bs (aAu (r7:=((⟨b.aG,b.aN,b.Day,b.bn,Aa x3 b⟩:Book),(nE x3 b,(0:Int)))) (D1:=D1) (D2:=D2) hn RS RS (by show (nE x3 b).length<=_;omega) (fun e he=>by obtain⟨r,hr,_,rfl⟩:=hD1 e he;exact⟨(hrr r hr).1,(hrr r hr).2.1⟩) hkept D1.length 0 n RS RS) (bs (al1 n) rfl))));show (bif (((nE x3 b).length:Nat):Int) !=(((nE x3 b).length:Nat):Int) then true else (wrap .i64 ((((Aa x3 b).length:Nat):Int)+(((nE x3 b).length:Nat):Int))) !=((b.Rows.length:Nat):Int))=false;rw[Tg RS,hkl];simp
end Sh
end
section
namespace Go.Proofs.YteniejlbjfigdaaGreatDoor.retain
open Go Go.ChangeShapes Go.WideShapes Go.ChangeAt Go.RowKit aR Sh
set_option maxRecDepth 100000
theorem byte_of {n:Int}{k:Nat}(h:iQ (V.int .u8 n)<=k)(hk:k<2^62):0<=n/\n<256:=by
 have h1:1+Fj .u8 n<=k:=h;have h2:=ahO (k:=.u8) (n:=n) RS;have e0:IntKind.min .u8=0:=aL
 have e1:IntKind.max .u8=255:=aL
 rw[e0,e1] at h2;omega
theorem aAy {l:List V}{v:V}(h:v∈l):mM v<=sO l:=by
 induction l with
 |nil=>cases h|cons x l ih=>
  rcases iC.1 h with rfl|h
  .show mM v<=mM v+sO l;omega
  .have:=ih h;show mM v<=mM x+sO l;omega
theorem adC {J:Type}(f:J->V){l:List J}{x:J}(h:x∈l):mM (f x)<=sO (l.map f):=aAy (List.mem_map_of_mem h)
theorem Pz {J:Type}(f:J->V)(hf:∀x,1<=mM (f x))(l:List J):l.length<=sO (l.map f):=by
 induction l with
 |nil=>exact qA _|cons x l ih=>have:=hf x;show l.length+1<=mM (f x)+sO (l.map f);omega
theorem al6 (d:Def):d.Name.length+d.Words.length+1<=mM (Def.v d)/\∀w∈d.Words,w.length+1<=mM (Def.v d):=by have e:mM (Def.v d)=(d.Name.length+1)+(1+(1+(1+(sO (d.Words.map V.str)+1+0)))):=rfl;have h1:=Pz V.str (fun x=>by simp[mM]) d.Words;refine⟨RS,fun w hw=>?_⟩;have h2:=adC V.str hw;have h3:mM (V.str w)=w.length+1:=rfl;omega
theorem aAz {s:aG}{n k:Nat}(h:mM (aG.v s)<=k)(hk:k<n)(hk2:k<2^62):rR s n:=by have e:mM (aG.v s)=1+(1+(sO (s.Defs.map Def.v)+1+0)):=rfl;have h1:=Pz Def.v (fun x=>by have:=(al6 x).1;omega) s.Defs;refine⟨RS,RS,fun d hd=>?_⟩;have h2:=adC Def.v hd;have h3:=al6 d;have h4:=h3.1;refine⟨RS,RS,RS,RS,fun w hw=>?_⟩;have:=h3.2 w hw;exact⟨RS,RS⟩
theorem al7 (e:Sh.Event):e.Vec.length+e.aY.length+1<=mM (Event.v e):=by have h1:=Pz iv (fun x=>mF _) e.Vec;have h2:=Pz Attr.v (fun x=>by show 1<=(x.Name.length+1)+_;omega) e.aY;obtain⟨m,hm⟩:∃m,mM (Event.v e)=1+(1+(1+(1+(1+(1+(1+(sO (e.Vec.map iv)+1+(sO (e.aY.map Attr.v)+1+m)))))))):=⟨_,rfl⟩;omega
theorem adD {l:List V}{v:V}(h:v∈l):iQ v<=mq l:=by
 induction l with
 |nil=>cases h|cons x l ih=>
  rcases iC.1 h with rfl|h
  .show iQ v<=iQ v+mq l;omega
  .have:=ih h;show iQ v<=iQ x+mq l;omega
theorem adE {J:Type}(f:J->V){l:List J}{x:J}(h:x∈l):iQ (f x)<=mq (l.map f):=adD (List.mem_map_of_mem h)
theorem D5 {n:Int}{k:Nat}(h:iQ (V.int .i64 n)<=k)(hk:k<2^62):rI n:=by
 have h1:1+Fj .i64 n<=k:=h;have h2:=ahO (k:=.i64) (n:=n) RS
 exact⟨h2.1,by have:=h2.2;have e:IntKind.max .i64=2^63-1:=aL
               rw[e] at this;omega⟩
theorem aAA {l:List Int}{k:Nat}(h:iQ (lv iv l)<=k)(hk:k<2^62):∀x∈l,rI x:=fun x hx=>by
 have h1:mq (l.map iv)+1<=k:=h;have h2:iQ (V.int .i64 x)<=mq (l.map iv):=adE iv hx;exact D5 (k:=k) RS hk
theorem aAB {l:List Attr}{k:Nat}(h:iQ (lv Attr.v l)<=k)(hk:k<2^62):∀a∈l,rI a.Kind/\rI a.N:=fun a ha=>by
 have h1:mq (l.map Attr.v)+1<=k:=h;have h2:iQ (Attr.v a)<=mq (l.map Attr.v):=adE Attr.v ha;have hm:∀v∈a.c,iQ v<=k:=fun v hv=>eO (adD hv) (show mq a.c<=k from eO h2 RS);exact⟨D5 (hm _ (by unfold Attr.c;simp)) hk,D5 (hm _ (by unfold Attr.c;simp)) hk⟩
theorem aAC {e:Sh.Event}{k:Nat}(h:iQ (Sh.Event.v e)<=k)(hk:k<2^62):adl e:=by
 have hm:∀v∈e.c,iQ v<=k:=fun v hv=>eO (adD hv) h;exact⟨⟨D5 (hm _ D6) hk,D5 (hm _ D6) hk,D5 (hm _ D6) hk,D5 (hm _ D6) hk,D5 (hm _ D6) hk⟩,
  aAA (hm _ D6) hk,aAB (hm _ D6) hk⟩
theorem aAD {l:List Sh.Event}{n k:Nat}(h:mq (l.map Event.v)+1<=k)(hk:k<n)(hk2:k<2^62):l.length<n/\l.length<2^62/\∀e∈l,ado e n:=by have h0:=SB (l.map Event.v);have h1:=Pz Event.v (fun x=>by have:=al7 x;omega) l;refine⟨RS,RS,fun x hx=>?_⟩;have h2:=adC Event.v hx;have h3:=al7 x;exact⟨RS,RS,RS,RS,aAC (k:=k) (eO (adE Event.v hx) RS) hk2⟩
end Go.Proofs.YteniejlbjfigdaaGreatDoor.retain
end
