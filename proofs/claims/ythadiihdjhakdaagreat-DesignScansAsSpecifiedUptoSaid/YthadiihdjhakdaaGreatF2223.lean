import Derived.Test.YthadiihdjhakdaaGreatF2222
set_option linter.all false
open Go.IntKind (wrap)
section
open Go aR
namespace So
variable {α:Type}
theorem TJ {i j:Nat}(h:i+j<2^61):wrap .i64 (aQ .u64 (wrap .u64 (wrap .i64 ((i:Int)+(j:Int)))) (1:Int))=(((i+j)/2:Nat):Int):=by rw[aCW ah ah];omega
theorem Yd {A V B:List α}{h:Nat}(h1:A.length<=h)(h2:h<A.length+V.length):(A++(V++B))[h]? =V[h-A.length]? :=by rw[List.getElem?_append_right h1,Eu ah]
theorem adA {l:List α}{k:Nat}{v:α}(h:v∈l.take k):∃i,i<k/\l[i]? =some v:=by
 obtain⟨i,hi⟩:=List.getElem?_of_mem h;rw[List.getElem?_take] at hi;split at hi
 ·exact⟨i,by assumption,hi⟩
 ·cases hi
theorem adB {l:List α}{k:Nat}{v:α}(h:v∈l.drop k):∃i,k<=i/\l[i]? =some v:=by obtain⟨i,hi⟩:=List.getElem?_of_mem h;rw[List.getElem?_drop] at hi;exact⟨k+i,ah,hi⟩
theorem get_some {l:List α}{i:Nat}(h:i<l.length):∃v,l[i]? =some v:=⟨l[i],jc h⟩
theorem cut {key:α->Int}{V:List α}(hV:fP key V){k:Nat}(Q:Int->Prop)(hQ:∀a b,a<=b->Q b->Q a)(h1:0<k->∃v,V[k-1]? =some v/\Q (key v))(h2:k<V.length->∃v,V[k]? =some v/\¬Q (key v)):(∀v∈V.take k,Q (key v))/\∀v∈V.drop k,¬Q (key v):=by
 refine⟨fun v hv=>?_,fun v hv hq=>?_⟩
 ·obtain⟨i,hi,hg⟩:=adA hv
  obtain⟨w,hw,adC⟩:=h1 ah;exact hQ _ _ (hV.le ah hg hw) adC
 ·obtain⟨i,hi,hg⟩:=adB hv
  have hlt:i<V.length:=by rw[qm] at hg;exact hg.1
  obtain⟨w,hw,adC⟩:=h2 ah;exact adC (hQ _ _ (hV.le hi hw hg) hq)
section
variable {key:α->Int}{cmp:α×α->Option Int}(hc:TH key cmp){n:Nat}
include hc
section
variable {L3:Nat->Int->List α->Nat->Int×Int->Option Int}(h3:∀(g:Nat) (x1:Int) (x4:List α) (m:Nat) (x5 x6:Int),L3 g x1 x4 (m+1) (x5,x6)=bif decide (x5<x6) then bif decide ((0:Int)<=(1:Int)) then bif decide (0<=(wrap .i64 (aQ .u64 (wrap .u64 (wrap .i64 (x5+x6))) (1:Int)))/\(wrap .i64 (aQ .u64 (wrap .u64 (wrap .i64 (x5+x6))) (1:Int)))< (x4.length:Int)) then (aN x4 (wrap .i64 (aQ .u64 (wrap .u64 (wrap .i64 (x5+x6))) (1:Int)))).bind fun (r7:α)=>bif decide (0<=x1/\x1< (x4.length:Int)) then (aN x4 x1).bind fun (r8:α)=>(cmp ((r7,r8))).bind fun (dI:Int)=>bif decide (dI< (0:Int)) then L3 g x1 x4 m ((wrap .i64 ((wrap .i64 (aQ .u64 (wrap .u64 (wrap .i64 (x5+x6))) (1:Int)))+(1:Int)),x6))else L3 g x1 x4 m ((x5,wrap .i64 (aQ .u64 (wrap .u64 (wrap .i64 (x5+x6))) (1:Int))))else none else none else none else some x5)
include h3
theorem s3 {g:Nat}{A V B:List α}{x:α}(hV:fP key V)(hb:(A++x::(V++B)).length<2^60)(hn:V.length<n):∃V1 V2,V=V1++V2/\L3 g (A.length:Int) (A++x::(V++B)) n (((A.length+1:Nat):Int),((A.length+1+V.length:Nat):Int))=some ((A.length+1+V1.length:Nat):Int)/\(∀v∈V1,key v<key x)/\∀v∈V2,¬key v<key x:=by
 have hD:A++x::(V++B)=(A++[x])++(V++B):=aD
 have hL:(A++[x]).length=A.length+1:=aD
 simp only[RS,List.length_cons] at hb;have hget:∀h,A.length+1<=h->h<A.length+1+V.length->(A++x::(V++B))[h]? =V[h-(A.length+1)]? :=fun h h1 h2=>by rw[hD,<-hL];exact Yd ah ah
 have hx:aN (A++x::(V++B)) (A.length:Int)=some x:=rH _ _ _ rfl;obtain⟨r,e1,e2,e3,e4,e5⟩:=bsearch (L:=fun m p=>L3 g (A.length:Int) (A++x::(V++B)) m p) (fun h=>∃v,V[h-(A.length+1)]? =some v/\key v<key x) (A.length+1) (A.length+1+V.length) (fun m i j hi hj hh=>by
  obtain⟨v,hv⟩:=get_some (l:=V) (i:=(i+j)/2-(A.length+1)) ah;have hv':=(hget ((i+j)/2) ah ah).trans hv;have hlt:(i+j)/2< (A++x::(V++B)).length:=Cn
  obtain⟨r,hr,zh⟩:=hc v x;have pre:∀z,(bif decide (r< (0:Int)) then L3 g (A.length:Int) (A++x::(V++B)) m ((((i+j)/2+1:Nat):Int),(j:Int)) else L3 g (A.length:Int) (A++x::(V++B)) m ((i:Int),(((i+j)/2:Nat):Int)))=z->L3 g (A.length:Int) (A++x::(V++B)) (m+1) ((i:Int),(j:Int))=z:=fun z hz=>by rw[h3,TJ ah,show wrap .i64 ((((i+j)/2:Nat):Int)+(1:Int))=(((i+j)/2+1:Nat):Int) by rw[wr ah ah];omega];exact kY (decide_eq_true ah) (iA rfl (iA (MC hlt) (bd (Yc hv') (iA (MC Cn) (bd hx (bd hr hz))))))
  refine⟨fun hp=>pre _ (kY (decide_eq_true ?_) rfl),fun hp=>pre _ (jZ (decide_eq_false fun h=>hp ⟨v,hv,zh.1 h⟩) rfl)⟩;obtain⟨w,hw,hk⟩:=hp;rw[hv] at hw;cases hw;exact zh.2 hk)
  (fun m i=>by show L3 g _ _ (m+1) _=_;rw[h3];exact jZ aD rfl) _ (A.length+1) (A.length+1+V.length) n (iP _) ah (iP _) rfl ah
 obtain⟨c1,c2⟩:=cut hV (k:=r-(A.length+1)) (fun z=>z<key x) (fun a b h h'=>ah) (fun h=>by
  obtain⟨v,hv,hk⟩:=e4 ah;exact⟨v,by rw[<-hv];congr 1;omega,hk⟩) (fun h=>by
  obtain⟨v,hv⟩:=get_some h;exact⟨v,hv,fun hk=>e5 ah ⟨v,hv,hk⟩⟩)
 refine⟨_,_,(tq (r-(A.length+1)) V).symm,?_,c1,c2⟩;rw[j3,Nc ah,show A.length+1+(r-(A.length+1))=r by omega];exact e1
end
section
variable {sV:Nat->Int->List α->Nat->Int×Int->Option Int}(Em:∀(g:Nat) (x2:Int) (x4:List α) (m:Nat) (x18 lM:Int),sV g x2 x4 (m+1) (x18,lM)=bif decide (x18<lM) then bif decide ((0:Int)<=(1:Int)) then bif decide (0<=x2/\x2< (x4.length:Int)) then (aN x4 x2).bind fun (F7:α)=>bif decide (0<=(wrap .i64 (aQ .u64 (wrap .u64 (wrap .i64 (x18+lM))) (1:Int)))/\(wrap .i64 (aQ .u64 (wrap .u64 (wrap .i64 (x18+lM))) (1:Int)))< (x4.length:Int)) then (aN x4 (wrap .i64 (aQ .u64 (wrap .u64 (wrap .i64 (x18+lM))) (1:Int)))).bind fun (F8:α)=>(cmp ((F7,F8))).bind fun (Ec:Int)=>bif !(decide (Ec< (0:Int))) then sV g x2 x4 m ((wrap .i64 ((wrap .i64 (aQ .u64 (wrap .u64 (wrap .i64 (x18+lM))) (1:Int)))+(1:Int)),lM))else sV g x2 x4 m ((x18,wrap .i64 (aQ .u64 (wrap .u64 (wrap .i64 (x18+lM))) (1:Int))))else none else none else none else some x18)
include Em
theorem s15 {g:Nat}{A U B:List α}{y:α}(hU:fP key U)(hb:(A++(U++y::B)).length<2^60)(hn:U.length<n):∃ig iM,U=ig++iM/\sV g ((A.length+U.length:Nat):Int) (A++(U++y::B)) n ((A.length:Int),((A.length+U.length:Nat):Int))=some ((A.length+ig.length:Nat):Int)/\(∀u∈ig,key u<=key y)/\∀u∈iM,¬key u<=key y:=by
 have hD:A++(U++y::B)=(A++U)++y::B:=aD
 simp only[RS,List.length_cons] at hb;have hget:∀h,A.length<=h->h<A.length+U.length->(A++(U++y::B))[h]? =U[h-A.length]? :=fun h h1 h2=>Yd h1 h2;have hx:aN (A++(U++y::B)) ((A.length+U.length:Nat):Int)=some y:=by rw[hD];exact rH _ _ _ aD
 obtain⟨r,e1,e2,e3,e4,e5⟩:=bsearch (L:=fun m p=>sV g ((A.length+U.length:Nat):Int) (A++(U++y::B)) m p) (fun h=>∃v,U[h-A.length]? =some v/\key v<=key y) A.length (A.length+U.length) (fun m i j hi hj hh=>by
  obtain⟨v,hv⟩:=get_some (l:=U) (i:=(i+j)/2-A.length) ah;have hv':=(hget ((i+j)/2) ah ah).trans hv;have hlt:(i+j)/2< (A++(U++y::B)).length:=Cn
  obtain⟨r,hr,zh⟩:=hc y v;have pre:∀z,(bif !(decide (r< (0:Int))) then sV g ((A.length+U.length:Nat):Int) (A++(U++y::B)) m ((((i+j)/2+1:Nat):Int),(j:Int)) else sV g ((A.length+U.length:Nat):Int) (A++(U++y::B)) m ((i:Int),(((i+j)/2:Nat):Int)))=z->sV g ((A.length+U.length:Nat):Int) (A++(U++y::B)) (m+1) ((i:Int),(j:Int))=z:=fun z hz=>by rw[Em,TJ ah,show wrap .i64 ((((i+j)/2:Nat):Int)+(1:Int))=(((i+j)/2+1:Nat):Int) by rw[wr ah ah];omega];exact kY (decide_eq_true ah) (iA rfl (iA (MC Cn) (bd hx (iA (MC hlt) (bd (Yc hv') (bd hr hz))))))
  refine⟨fun hp=>pre _ (kY ?_ rfl),fun hp=>pre _ (jZ ?_ rfl)⟩
  ·obtain⟨w,hw,hk⟩:=hp
   rw[hv] at hw;cases hw;rw[decide_eq_false (fun h=>by have:=zh.1 h;omega)];rfl
  ·rw[decide_eq_true (zh.2 (Int.not_le.1 fun h=>hp ⟨v,hv,h⟩))];rfl)
  (fun m i=>by show sV g _ _ (m+1) _=_;rw[Em];exact jZ aD rfl) _ A.length (A.length+U.length) n (iP _) ah (iP _) rfl ah
 obtain⟨c1,c2⟩:=cut hU (k:=r-A.length) (fun z=>z<=key y) (fun a b h h'=>ah) (fun h=>by
  obtain⟨v,hv,hk⟩:=e4 ah;exact⟨v,by rw[<-hv];congr 1;omega,hk⟩) (fun h=>by
  obtain⟨v,hv⟩:=get_some h;exact⟨v,hv,fun hk=>e5 ah ⟨v,hv,hk⟩⟩)
 refine⟨_,_,(tq (r-A.length) U).symm,?_,c1,c2⟩;rw[j3,Nc ah,show A.length+(r-A.length)=r by omega];exact e1
end
end
end So
end
section
open Go aR
namespace So
variable {α:Type}
theorem fD.mem {key:α->Int}{s t:List α}(h:fD key s t){a:α}(ha:a∈s):a∈t:=by have h1:a∈s.filter (fun x=>key x==key a):=xM.2 ⟨ha,aD⟩;rw[h (key a)] at h1;exact(xM.1 h1).1
theorem fD.refl {key:α->Int}(s:List α):fD key s s:=fun _=>rfl
theorem fD.app {key:α->Int}{s t s' t':List α}(h:fD key s t)(h':fD key s' t'):fD key (s++s') (t++t'):=fun k=>by rw[xP,xP,h k,h' k]
theorem fD.trans {key:α->Int}{s t u:List α}(h:fD key s t)(h':fD key t u):fD key s u:=fun k=>(h k).trans (h' k)
theorem fD.swap {key:α->Int}{s t:List α}(h:∀a∈s,∀b∈t,key a<key b):fD key (s++t) (t++s):=by
 intro k;rw[xP,xP];by_cases hs:s.filter (fun a=>key a==k)=[]
 ·rw[hs];simp
 ·have:t.filter (fun a=>key a==k)=[]:=by
   obtain⟨a,ha⟩:=List.exists_mem_of_ne_nil _ hs;rw[List.filter_eq_nil_iff];intro b hb hk;obtain⟨h1,h2⟩:=xM.1 ha;have:=h a h1 b hb;have e1:key a=k:=pq
   have e2:key b=k:=M7
   omega
  rw[this];simp
theorem fP.app {key:α->Int}{s t:List α}(h:fP key s)(h':fP key t)(hh:∀a∈s,∀b∈t,key a<=key b):fP key (s++t):=List.pairwise_append.2 ⟨h,h',hh⟩
section
variable {key:α->Int}{cmp:α×α->Option Int}(hc:TH key cmp){n:Nat}{qM:Nat->Int->Int->Int->List α->Nat->Int×Int->Option Int}(ME:∀(g:Nat) (x1 x2 x3:Int) (x4:List α) (m:Nat) (x31 x32:Int),qM g x1 x2 x3 x4 (m+1) (x31,x32)=bif decide (x31<x32) then bif decide ((0:Int)<=(1:Int)) then bif decide (0<=(wrap .i64 ((wrap .i64 ((wrap .i64 ((wrap .i64 (aQ .u64 (wrap .u64 (wrap .i64 (x1+x3))) (1:Int)))+x2))-(1:Int)))-(wrap .i64 (aQ .u64 (wrap .u64 (wrap .i64 (x31+x32))) (1:Int)))))/\(wrap .i64 ((wrap .i64 ((wrap .i64 ((wrap .i64 (aQ .u64 (wrap .u64 (wrap .i64 (x1+x3))) (1:Int)))+x2))-(1:Int)))-(wrap .i64 (aQ .u64 (wrap .u64 (wrap .i64 (x31+x32))) (1:Int)))))< (x4.length:Int)) then (aN x4 (wrap .i64 ((wrap .i64 ((wrap .i64 ((wrap .i64 (aQ .u64 (wrap .u64 (wrap .i64 (x1+x3))) (1:Int)))+x2))-(1:Int)))-(wrap .i64 (aQ .u64 (wrap .u64 (wrap .i64 (x31+x32))) (1:Int)))))).bind fun (SI:α)=>bif decide (0<=(wrap .i64 (aQ .u64 (wrap .u64 (wrap .i64 (x31+x32))) (1:Int)))/\(wrap .i64 (aQ .u64 (wrap .u64 (wrap .i64 (x31+x32))) (1:Int)))< (x4.length:Int)) then (aN x4 (wrap .i64 (aQ .u64 (wrap .u64 (wrap .i64 (x31+x32))) (1:Int)))).bind fun (SK:α)=>(cmp ((SI,SK))).bind fun (SL:Int)=>bif !(decide (SL< (0:Int))) then qM g x1 x2 x3 x4 m ((wrap .i64 ((wrap .i64 (aQ .u64 (wrap .u64 (wrap .i64 (x31+x32))) (1:Int)))+(1:Int)),x32))else qM g x1 x2 x3 x4 m ((x31,wrap .i64 (aQ .u64 (wrap .u64 (wrap .i64 (x31+x32))) (1:Int))))else none else none else none else some x31)
include hc ME
theorem aCX {g:Nat}{A U V B:List α}{lo hi mid:Nat}(hmid:mid=(A.length+(A.length+U.length+V.length))/2)(hlo:A.length<=lo)(hhi:hi<=A.length+U.length)(hm1:hi<=mid)(hm2:mid<=lo+V.length)(hlh:lo<=hi)(hb:(A++(U++(V++B))).length<2^59)(hn:U.length+V.length<n):
 ∃s:Nat,qM g (A.length:Int) ((A.length+U.length:Nat):Int) ((A.length+U.length+V.length:Nat):Int) (A++(U++(V++B))) n ((lo:Int),(hi:Int))=some (s:Int)/\lo<=s/\s<=hi/\
  (lo<s->∃u v,U[s-1-A.length]? =some u/\V[mid-s]? =some v/\key u<=key v)/\(s<hi->∃u v,U[s-A.length]? =some u/\V[mid-1-s]? =some v/\key v<key u):=by
 simp only[RS] at hb;have aCY:∀h,A.length<=h->h<A.length+U.length->(A++(U++(V++B)))[h]? =U[h-A.length]? :=fun h h1 h2=>Yd h1 h2;have gv:∀h,A.length+U.length<=h->h<A.length+U.length+V.length->(A++(U++(V++B)))[h]? =V[h-(A.length+U.length)]? :=fun h h1 h2=>by rw[<-jR,Yd Ct Ct,RS]
 obtain⟨r,e1,e2,e3,e4,e5⟩:=bsearch (L:=fun m p=>qM g (A.length:Int) ((A.length+U.length:Nat):Int) ((A.length+U.length+V.length:Nat):Int) (A++(U++(V++B))) m p) (fun c=>∃u v,U[c-A.length]? =some u/\V[mid-1-c]? =some v/\key u<=key v) lo hi (fun m i j hi' hj hh=>by
  obtain⟨u,hu⟩:=get_some (l:=U) (i:=(i+j)/2-A.length) ah;obtain⟨v,hv⟩:=get_some (l:=V) (i:=mid-1-(i+j)/2) ah;have hu':=(aCY ((i+j)/2) ah ah).trans hu;have hv':(A++(U++(V++B)))[mid+(A.length+U.length)-1-(i+j)/2]? =some v:=by rw[gv _ ah ah,<-hv];congr 1;omega
  have aCZ:(i+j)/2< (A++(U++(V++B))).length:=o9
  have lv:mid+(A.length+U.length)-1-(i+j)/2< (A++(U++(V++B))).length:=o9
  obtain⟨r,hr,zh⟩:=hc v u;have pre:∀z,(bif !(decide (r< (0:Int))) then qM g (A.length:Int) ((A.length+U.length:Nat):Int) ((A.length+U.length+V.length:Nat):Int) (A++(U++(V++B))) m ((((i+j)/2+1:Nat):Int),(j:Int)) else qM g (A.length:Int) ((A.length+U.length:Nat):Int) ((A.length+U.length+V.length:Nat):Int) (A++(U++(V++B))) m ((i:Int),(((i+j)/2:Nat):Int)))=z->qM g (A.length:Int) ((A.length+U.length:Nat):Int) ((A.length+U.length+V.length:Nat):Int) (A++(U++(V++B))) (m+1) ((i:Int),(j:Int))=z:=fun z hz=>by
   rw[ME,TJ (i:=i) (j:=j) ah,TJ (i:=A.length) (j:=A.length+U.length+V.length) ah,<-hmid,
    show wrap .i64 ((mid:Int)+((A.length+U.length:Nat):Int))=((mid+(A.length+U.length):Nat):Int) by rw[wr ah ah];omega,
    show wrap .i64 (((mid+(A.length+U.length):Nat):Int)-(1:Int))=((mid+(A.length+U.length)-1:Nat):Int) by rw[wr ah ah];omega,
    show wrap .i64 (((mid+(A.length+U.length)-1:Nat):Int)-(((i+j)/2:Nat):Int))=((mid+(A.length+U.length)-1-(i+j)/2:Nat):Int) by rw[wr ah ah];omega,
    show wrap .i64 ((((i+j)/2:Nat):Int)+(1:Int))=(((i+j)/2+1:Nat):Int) by rw[wr ah ah];omega]
   exact kY (decide_eq_true ah) (iA rfl (iA (MC lv) (bd (Yc hv') (iA (MC aCZ) (bd (Yc hu') (bd hr hz))))))
  refine⟨fun hp=>pre _ (kY ?_ rfl),fun hp=>pre _ (jZ ?_ rfl)⟩
  ·obtain⟨u',v',hu2,hv2,hk⟩:=hp
   rw[hu] at hu2;rw[hv] at hv2;cases hu2;cases hv2;rw[decide_eq_false (fun h=>by have:=zh.1 h;omega)];rfl
  ·rw[decide_eq_true (zh.2 (Int.not_le.1 fun h=>hp ⟨u,v,hu,hv,h⟩))];rfl)
  (fun m i=>by show qM g _ _ _ _ (m+1) _=_;rw[ME];exact jZ aD rfl) _ lo hi n (iP _) hlh (iP _) rfl ah
 refine⟨r,e1,e2,e3,fun h=>?_,fun h=>?_⟩
 ·obtain⟨u,v,h1,h2,h3⟩:=e4 h
  exact⟨u,v,h1,by rw[<-h2];congr 1;omega,h3⟩
 ·obtain⟨u,hu⟩:=get_some (l:=U) (i:=r-A.length) ah
  obtain⟨v,hv⟩:=get_some (l:=V) (i:=mid-1-r) ah;exact⟨u,v,hu,hv,Int.not_le.1 fun hk=>e5 h ⟨u,v,hu,hv,hk⟩⟩
end
end So
end
section
open Go aR
namespace So
variable {α:Type}
theorem adD {p q:Prop}[Decidable p][Decidable q](hp:p)(hq:q):(bif decide p then decide q else false)=true:=by rw[decide_eq_true hp,decide_eq_true hq];rfl
theorem adE {p q:Prop}[Decidable p][Decidable q](h:¬(p/\q)):(bif decide p then decide q else false)=false:=by
 by_cases hp:p
 ·rw[decide_eq_true hp,decide_eq_false fun hq=>h ⟨hp,hq⟩];rfl
 ·rw[decide_eq_false hp];rfl
theorem uG {γ:Type}{c:Bool}{o:Option (PUnit×List α)}{d d1:List α}{K1:PUnit×List α->Option γ}{K2 r:Option γ}(h:(c=true/\o=some ((),d1))\/(c=false/\d=d1))(k1:K1 ((),d1)=r)(k2:d=d1->K2=r):(bif c then o.bind K1 else K2)=r:=by
 rcases h with ⟨rfl,rfl⟩| ⟨rfl,e⟩
 ·exact k1
 ·exact k2 e
section
variable {key:α->Int}{cmp:α×α->Option Int}(hc:TH key cmp){n:Nat}{L3:Nat->Int->List α->Nat->Int×Int->Option Int}{uF:Nat->Int->Nat->Int×List α->Option (PUnit×List α)}{sV:Nat->Int->List α->Nat->Int×Int->Option Int}{El:Nat->Int->Nat->Int×List α->Option (PUnit×List α)}{qM:Nat->Int->Int->Int->List α->Nat->Int×Int->Option Int}{ro:Unit×Int×Int×Int×(Unit×Unit)->List α->Option (PUnit×List α)}{S:Nat->Unit×Int×Int×Int×(Unit×Unit)->List α->Option (PUnit×List α)}(h3:∀(g:Nat) (x1:Int) (x4:List α) (m:Nat) (x5 x6:Int),L3 g x1 x4 (m+1) (x5,x6)=bif decide (x5<x6) then bif decide ((0:Int)<=(1:Int)) then bif decide (0<=(wrap .i64 (aQ .u64 (wrap .u64 (wrap .i64 (x5+x6))) (1:Int)))/\(wrap .i64 (aQ .u64 (wrap .u64 (wrap .i64 (x5+x6))) (1:Int)))< (x4.length:Int)) then (aN x4 (wrap .i64 (aQ .u64 (wrap .u64 (wrap .i64 (x5+x6))) (1:Int)))).bind fun (r7:α)=>bif decide (0<=x1/\x1< (x4.length:Int)) then (aN x4 x1).bind fun (r8:α)=>(cmp ((r7,r8))).bind fun (dI:Int)=>bif decide (dI< (0:Int)) then L3 g x1 x4 m ((wrap .i64 ((wrap .i64 (aQ .u64 (wrap .u64 (wrap .i64 (x5+x6))) (1:Int)))+(1:Int)),x6))else L3 g x1 x4 m ((x5,wrap .i64 (aQ .u64 (wrap .u64 (wrap .i64 (x5+x6))) (1:Int))))else none else none else none else some x5)(h9:∀(g:Nat) (dh:Int) (m:Nat) (dN:Int) (gI:List α),uF g dh (m+1) (dN,gI)=bif decide (dN< (wrap .i64 (dh-(1:Int)))) then bif decide (0<=(wrap .i64 (dN+(1:Int)))/\(wrap .i64 (dN+(1:Int)))< (gI.length:Int)) then (aN gI (wrap .i64 (dN+(1:Int)))).bind fun (lK:α)=>bif decide (0<=dN/\dN< (gI.length:Int)) then (aN gI dN).bind fun (iX:α)=>bif decide (0<=dN/\dN< (gI.length:Int)) then (aN gI dN).bind fun (jK:α)=>bif decide (0<=(wrap .i64 (dN+(1:Int)))/\(wrap .i64 (dN+(1:Int)))< (((dH gI dN lK).length:Nat):Int)) then (aN (dH gI dN lK) (wrap .i64 (dN+(1:Int)))).bind fun (r16:α)=>
        uF g dh m ((wrap .i64 (dN+(1:Int)),dH (dH gI dN lK) (wrap .i64 (dN+(1:Int))) iX))else none else none else none else none else some (((),gI)))(Em:∀(g:Nat) (x2:Int) (x4:List α) (m:Nat) (x18 lM:Int),sV g x2 x4 (m+1) (x18,lM)=bif decide (x18<lM) then bif decide ((0:Int)<=(1:Int)) then bif decide (0<=x2/\x2< (x4.length:Int)) then (aN x4 x2).bind fun (F7:α)=>bif decide (0<=(wrap .i64 (aQ .u64 (wrap .u64 (wrap .i64 (x18+lM))) (1:Int)))/\(wrap .i64 (aQ .u64 (wrap .u64 (wrap .i64 (x18+lM))) (1:Int)))< (x4.length:Int)) then (aN x4 (wrap .i64 (aQ .u64 (wrap .u64 (wrap .i64 (x18+lM))) (1:Int)))).bind fun (F8:α)=>(cmp ((F7,F8))).bind fun (Ec:Int)=>bif !(decide (Ec< (0:Int))) then sV g x2 x4 m ((wrap .i64 ((wrap .i64 (aQ .u64 (wrap .u64 (wrap .i64 (x18+lM))) (1:Int)))+(1:Int)),lM))else sV g x2 x4 m ((x18,wrap .i64 (aQ .u64 (wrap .u64 (wrap .i64 (x18+lM))) (1:Int))))else none else none else none else some x18)(h21:∀(g:Nat) (ou:Int) (m:Nat) (x24:Int) (x25:List α),El g ou (m+1) (x24,x25)=bif decide (x24>ou) then bif decide (0<=(wrap .i64 (x24-(1:Int)))/\(wrap .i64 (x24-(1:Int)))< (x25.length:Int)) then (aN x25 (wrap .i64 (x24-(1:Int)))).bind fun (y5:α)=>bif decide (0<=x24/\x24< (x25.length:Int)) then (aN x25 x24).bind fun (SH:α)=>bif decide (0<=x24/\x24< (x25.length:Int)) then (aN x25 x24).bind fun (am4:α)=>bif decide (0<=(wrap .i64 (x24-(1:Int)))/\(wrap .i64 (x24-(1:Int)))< (((dH x25 x24 y5).length:Nat):Int)) then (aN (dH x25 x24 y5) (wrap .i64 (x24-(1:Int)))).bind fun (am5:α)=>
        El g ou m ((wrap .i64 (x24-(1:Int)),dH (dH x25 x24 y5) (wrap .i64 (x24-(1:Int))) SH))else none else none else none else none else some (((),x25)))(ME:∀(g:Nat) (x1 x2 x3:Int) (x4:List α) (m:Nat) (x31 x32:Int),qM g x1 x2 x3 x4 (m+1) (x31,x32)=bif decide (x31<x32) then bif decide ((0:Int)<=(1:Int)) then bif decide (0<=(wrap .i64 ((wrap .i64 ((wrap .i64 ((wrap .i64 (aQ .u64 (wrap .u64 (wrap .i64 (x1+x3))) (1:Int)))+x2))-(1:Int)))-(wrap .i64 (aQ .u64 (wrap .u64 (wrap .i64 (x31+x32))) (1:Int)))))/\(wrap .i64 ((wrap .i64 ((wrap .i64 ((wrap .i64 (aQ .u64 (wrap .u64 (wrap .i64 (x1+x3))) (1:Int)))+x2))-(1:Int)))-(wrap .i64 (aQ .u64 (wrap .u64 (wrap .i64 (x31+x32))) (1:Int)))))< (x4.length:Int)) then (aN x4 (wrap .i64 ((wrap .i64 ((wrap .i64 ((wrap .i64 (aQ .u64 (wrap .u64 (wrap .i64 (x1+x3))) (1:Int)))+x2))-(1:Int)))-(wrap .i64 (aQ .u64 (wrap .u64 (wrap .i64 (x31+x32))) (1:Int)))))).bind fun (SI:α)=>bif decide (0<=(wrap .i64 (aQ .u64 (wrap .u64 (wrap .i64 (x31+x32))) (1:Int)))/\(wrap .i64 (aQ .u64 (wrap .u64 (wrap .i64 (x31+x32))) (1:Int)))< (x4.length:Int)) then (aN x4 (wrap .i64 (aQ .u64 (wrap .u64 (wrap .i64 (x31+x32))) (1:Int)))).bind fun (SK:α)=>(cmp ((SI,SK))).bind fun (SL:Int)=>bif !(decide (SL< (0:Int))) then qM g x1 x2 x3 x4 m ((wrap .i64 ((wrap .i64 (aQ .u64 (wrap .u64 (wrap .i64 (x31+x32))) (1:Int)))+(1:Int)),x32))else qM g x1 x2 x3 x4 m ((x31,wrap .i64 (aQ .u64 (wrap .u64 (wrap .i64 (x31+x32))) (1:Int))))else none else none else none else some x31)(hro:∀A U V B:List α,0<U.length->0<V.length->(A++(U++V)++B).length<2^61->U.length+V.length<n->ro ((),(A.length:Int),((A.length+U.length:Nat):Int),((A.length+U.length+V.length:Nat):Int),((),())) (A++(U++V)++B)=some ((),A++(V++U)++B))(hS:∀(g:Nat) (x1 x2 x3:Int) (x4:List α),S (g+1) (((),(x1,(x2,(x3,((),())))))) (x4)=bif (wrap .i64 (x2-x1))==(1:Int) then (L3 g x1 x4 n ((x2,x3))).bind fun (dh:Int)=>(uF g dh n ((x1,x4))).bind fun (qJ:PUnit×List α)=>some (((),qJ.2))else bif (wrap .i64 (x3-x2))==(1:Int) then (sV g x2 x4 n ((x1,x2))).bind fun (ou:Int)=>(El g ou n ((x2,x4))).bind fun (ada:PUnit×List α)=>some (((),ada.2))else bif decide ((0:Int)<=(1:Int)) then bif decide (x2> (wrap .i64 (aQ .u64 (wrap .u64 (wrap .i64 (x1+x3))) (1:Int)))) then (qM g x1 x2 x3 x4 n ((wrap .i64 ((wrap .i64 ((wrap .i64 (aQ .u64 (wrap .u64 (wrap .i64 (x1+x3))) (1:Int)))+x2))-x3),wrap .i64 (aQ .u64 (wrap .u64 (wrap .i64 (x1+x3))) (1:Int))))).bind fun (gY:Int)=>bif bif decide (gY<x2) then decide (x2< (wrap .i64 ((wrap .i64 ((wrap .i64 (aQ .u64 (wrap .u64 (wrap .i64 (x1+x3))) (1:Int)))+x2))-gY))) else false then (ro (((),(gY,(x2,(wrap .i64 ((wrap .i64 ((wrap .i64 (aQ .u64 (wrap .u64 (wrap .i64 (x1+x3))) (1:Int)))+x2))-gY),((),())))))) x4).bind fun (Gd:PUnit×List α)=>bif bif decide (x1<gY) then decide (gY< (wrap .i64 (aQ .u64 (wrap .u64 (wrap .i64 (x1+x3))) (1:Int)))) else false then (S g (((),(x1,(gY,(wrap .i64 (aQ .u64 (wrap .u64 (wrap .i64 (x1+x3))) (1:Int)),((),())))))) Gd.2).bind fun (SN:PUnit×List α)=>bif bif decide ((wrap .i64 (aQ .u64 (wrap .u64 (wrap .i64 (x1+x3))) (1:Int)))< (wrap .i64 ((wrap .i64 ((wrap .i64 (aQ .u64 (wrap .u64 (wrap .i64 (x1+x3))) (1:Int)))+x2))-gY))) then decide ((wrap .i64 ((wrap .i64 ((wrap .i64 (aQ .u64 (wrap .u64 (wrap .i64 (x1+x3))) (1:Int)))+x2))-gY))<x3) else false then (S g (((),(wrap .i64 (aQ .u64 (wrap .u64 (wrap .i64 (x1+x3))) (1:Int)),(wrap .i64 ((wrap .i64 ((wrap .i64 (aQ .u64 (wrap .u64 (wrap .i64 (x1+x3))) (1:Int)))+x2))-gY),(x3,((),())))))) SN.2).bind fun (adb:PUnit×List α)=>some (((),adb.2))else some (((),SN.2))else bif bif decide ((wrap .i64 (aQ .u64 (wrap .u64 (wrap .i64 (x1+x3))) (1:Int)))< (wrap .i64 ((wrap .i64 ((wrap .i64 (aQ .u64 (wrap .u64 (wrap .i64 (x1+x3))) (1:Int)))+x2))-gY))) then decide ((wrap .i64 ((wrap .i64 ((wrap .i64 (aQ .u64 (wrap .u64 (wrap .i64 (x1+x3))) (1:Int)))+x2))-gY))<x3) else false then (S g (((),(wrap .i64 (aQ .u64 (wrap .u64 (wrap .i64 (x1+x3))) (1:Int)),(wrap .i64 ((wrap .i64 ((wrap .i64 (aQ .u64 (wrap .u64 (wrap .i64 (x1+x3))) (1:Int)))+x2))-gY),(x3,((),())))))) Gd.2).bind fun (ade:PUnit×List α)=>some (((),ade.2))else some (((),Gd.2))else bif bif decide (x1<gY) then decide (gY< (wrap .i64 (aQ .u64 (wrap .u64 (wrap .i64 (x1+x3))) (1:Int)))) else false then (S g (((),(x1,(gY,(wrap .i64 (aQ .u64 (wrap .u64 (wrap .i64 (x1+x3))) (1:Int)),((),())))))) x4).bind fun (SQ:PUnit×List α)=>bif bif decide ((wrap .i64 (aQ .u64 (wrap .u64 (wrap .i64 (x1+x3))) (1:Int)))< (wrap .i64 ((wrap .i64 ((wrap .i64 (aQ .u64 (wrap .u64 (wrap .i64 (x1+x3))) (1:Int)))+x2))-gY))) then decide ((wrap .i64 ((wrap .i64 ((wrap .i64 (aQ .u64 (wrap .u64 (wrap .i64 (x1+x3))) (1:Int)))+x2))-gY))<x3) else false then (S g (((),(wrap .i64 (aQ .u64 (wrap .u64 (wrap .i64 (x1+x3))) (1:Int)),(wrap .i64 ((wrap .i64 ((wrap .i64 (aQ .u64 (wrap .u64 (wrap .i64 (x1+x3))) (1:Int)))+x2))-gY),(x3,((),())))))) SQ.2).bind fun (adf:PUnit×List α)=>some (((),adf.2))else some (((),SQ.2))else bif bif decide ((wrap .i64 (aQ .u64 (wrap .u64 (wrap .i64 (x1+x3))) (1:Int)))< (wrap .i64 ((wrap .i64 ((wrap .i64 (aQ .u64 (wrap .u64 (wrap .i64 (x1+x3))) (1:Int)))+x2))-gY))) then decide ((wrap .i64 ((wrap .i64 ((wrap .i64 (aQ .u64 (wrap .u64 (wrap .i64 (x1+x3))) (1:Int)))+x2))-gY))<x3) else false then (S g (((),(wrap .i64 (aQ .u64 (wrap .u64 (wrap .i64 (x1+x3))) (1:Int)),(wrap .i64 ((wrap .i64 ((wrap .i64 (aQ .u64 (wrap .u64 (wrap .i64 (x1+x3))) (1:Int)))+x2))-gY),(x3,((),())))))) x4).bind fun (adg:PUnit×List α)=>some (((),adg.2))else some (((),x4))else (qM g x1 x2 x3 x4 n ((x1,x2))).bind fun (gZ:Int)=>bif bif decide (gZ<x2) then decide (x2< (wrap .i64 ((wrap .i64 ((wrap .i64 (aQ .u64 (wrap .u64 (wrap .i64 (x1+x3))) (1:Int)))+x2))-gZ))) else false then (ro (((),(gZ,(x2,(wrap .i64 ((wrap .i64 ((wrap .i64 (aQ .u64 (wrap .u64 (wrap .i64 (x1+x3))) (1:Int)))+x2))-gZ),((),())))))) x4).bind fun (Gf:PUnit×List α)=>bif bif decide (x1<gZ) then decide (gZ< (wrap .i64 (aQ .u64 (wrap .u64 (wrap .i64 (x1+x3))) (1:Int)))) else false then (S g (((),(x1,(gZ,(wrap .i64 (aQ .u64 (wrap .u64 (wrap .i64 (x1+x3))) (1:Int)),((),())))))) Gf.2).bind fun (SS:PUnit×List α)=>bif bif decide ((wrap .i64 (aQ .u64 (wrap .u64 (wrap .i64 (x1+x3))) (1:Int)))< (wrap .i64 ((wrap .i64 ((wrap .i64 (aQ .u64 (wrap .u64 (wrap .i64 (x1+x3))) (1:Int)))+x2))-gZ))) then decide ((wrap .i64 ((wrap .i64 ((wrap .i64 (aQ .u64 (wrap .u64 (wrap .i64 (x1+x3))) (1:Int)))+x2))-gZ))<x3) else false then (S g (((),(wrap .i64 (aQ .u64 (wrap .u64 (wrap .i64 (x1+x3))) (1:Int)),(wrap .i64 ((wrap .i64 ((wrap .i64 (aQ .u64 (wrap .u64 (wrap .i64 (x1+x3))) (1:Int)))+x2))-gZ),(x3,((),())))))) SS.2).bind fun (adh:PUnit×List α)=>some (((),adh.2))else some (((),SS.2))else bif bif decide ((wrap .i64 (aQ .u64 (wrap .u64 (wrap .i64 (x1+x3))) (1:Int)))< (wrap .i64 ((wrap .i64 ((wrap .i64 (aQ .u64 (wrap .u64 (wrap .i64 (x1+x3))) (1:Int)))+x2))-gZ))) then decide ((wrap .i64 ((wrap .i64 ((wrap .i64 (aQ .u64 (wrap .u64 (wrap .i64 (x1+x3))) (1:Int)))+x2))-gZ))<x3) else false then (S g (((),(wrap .i64 (aQ .u64 (wrap .u64 (wrap .i64 (x1+x3))) (1:Int)),(wrap .i64 ((wrap .i64 ((wrap .i64 (aQ .u64 (wrap .u64 (wrap .i64 (x1+x3))) (1:Int)))+x2))-gZ),(x3,((),())))))) Gf.2).bind fun (adi:PUnit×List α)=>some (((),adi.2))else some (((),Gf.2))else bif bif decide (x1<gZ) then decide (gZ< (wrap .i64 (aQ .u64 (wrap .u64 (wrap .i64 (x1+x3))) (1:Int)))) else false then (S g (((),(x1,(gZ,(wrap .i64 (aQ .u64 (wrap .u64 (wrap .i64 (x1+x3))) (1:Int)),((),())))))) x4).bind fun (SV:PUnit×List α)=>bif bif decide ((wrap .i64 (aQ .u64 (wrap .u64 (wrap .i64 (x1+x3))) (1:Int)))< (wrap .i64 ((wrap .i64 ((wrap .i64 (aQ .u64 (wrap .u64 (wrap .i64 (x1+x3))) (1:Int)))+x2))-gZ))) then decide ((wrap .i64 ((wrap .i64 ((wrap .i64 (aQ .u64 (wrap .u64 (wrap .i64 (x1+x3))) (1:Int)))+x2))-gZ))<x3) else false then (S g (((),(wrap .i64 (aQ .u64 (wrap .u64 (wrap .i64 (x1+x3))) (1:Int)),(wrap .i64 ((wrap .i64 ((wrap .i64 (aQ .u64 (wrap .u64 (wrap .i64 (x1+x3))) (1:Int)))+x2))-gZ),(x3,((),())))))) SV.2).bind fun (adj:PUnit×List α)=>some (((),adj.2))else some (((),SV.2))else bif bif decide ((wrap .i64 (aQ .u64 (wrap .u64 (wrap .i64 (x1+x3))) (1:Int)))< (wrap .i64 ((wrap .i64 ((wrap .i64 (aQ .u64 (wrap .u64 (wrap .i64 (x1+x3))) (1:Int)))+x2))-gZ))) then decide ((wrap .i64 ((wrap .i64 ((wrap .i64 (aQ .u64 (wrap .u64 (wrap .i64 (x1+x3))) (1:Int)))+x2))-gZ))<x3) else false then (S g (((),(wrap .i64 (aQ .u64 (wrap .u64 (wrap .i64 (x1+x3))) (1:Int)),(wrap .i64 ((wrap .i64 ((wrap .i64 (aQ .u64 (wrap .u64 (wrap .i64 (x1+x3))) (1:Int)))+x2))-gZ),(x3,((),())))))) x4).bind fun (adk:PUnit×List α)=>some (((),adk.2))else some (((),x4))else none)
include hc h3 h9 Em h21 ME hro hS
theorem sym:∀(g:Nat)(A U V B:List α),fP key U->fP key V->0<U.length->0<V.length->U.length+V.length<g->U.length+V.length<n->(A++(U++(V++B))).length<2^59->
 ∃W,fP key W/\fD key W (U++V)/\W.length=U.length+V.length/\S g ((),(A.length:Int),((A.length+U.length:Nat):Int),((A.length+U.length+V.length:Nat):Int),((),())) (A++(U++(V++B)))=some ((),A++(W++B))
 |0,_,_,_,_,_,_,_,_,h,_,_=>ah|g+1,A,U,V,B,hU,hV,hu,hv,hg,hn,hb=>by
  have hb':=hb;simp only[RS] at hb';rw[hS];by_cases u1:U.length=1
  ·obtain⟨x,rfl⟩:=List.length_eq_one_iff.1 u1
   obtain⟨V1,V2,rfl,e1,e2,e3⟩:=s3 hc h3 (n:=n) (g:=g) (A:=A) (B:=B) (x:=x) hV MO ah;have hw:fP key (V1++x::V2):=by
    have h1:=List.pairwise_append.1 hV;refine fP.app h1.1 (List.pairwise_cons.2 ⟨fun b hb=>Int.not_lt.1 (e3 b hb),h1.2.1⟩) fun a ha b hb=>?_;rcases fV.1 hb with rfl|hb
    ·exact Int.le_of_lt (e2 a ha)
    ·exact h1.2.2 a ha b hb
   refine⟨V1++x::V2,hw,?_,oD,?_⟩
   ·have:fD key (V1++[x]) ([x]++V1):=fD.swap fun a ha b hb=>by rw[jk.1 hb];exact e2 a ha
    have:=this.app (fD.refl (key:=key) V2);simpa using this
   ·refine kY MQ (bd (a:=((A.length+1+V1.length:Nat):Int)) ?_ ?_)
    ·rw[<-e1];simp
    ·refine bd (a:=((),A++(V1++x::(V2++B)))) ?_ ?_
     ·have:=fwd h9 (g:=g) (x:=x) (B:=V2++B) V1 A n MO (by simp only[RS] at hn;omega)
      rw[<-this];simp
     ·simp
  ·by_cases v1:V.length=1
   ·obtain⟨y,rfl⟩:=List.length_eq_one_iff.1 v1
    obtain⟨ig,iM,rfl,e1,e2,e3⟩:=s15 hc Em (n:=n) (g:=g) (A:=A) (B:=B) (y:=y) hU MO ah;have hw:fP key (ig++y::iM):=by
     have h1:=List.pairwise_append.1 hU;refine fP.app h1.1 (List.pairwise_cons.2 ⟨fun b hb=>Int.le_of_lt (Int.not_le.1 (e3 b hb)),h1.2.1⟩) fun a ha b hb=>?_;rcases fV.1 hb with rfl|hb
     ·exact e2 a ha
     ·exact h1.2.2 a ha b hb
    have hl2:(ig++iM).length=ig.length+iM.length:=RS;refine⟨ig++y::iM,hw,?_,oD,?_⟩
    ·have:fD key ([y]++iM) (iM++[y]):=fD.swap fun a ha b hb=>by rw[jk.1 ha];exact Int.not_le.1 (e3 b hb)
     have:=(fD.refl (key:=key) ig).app this;simpa using this
    ·refine jZ MQ (kY MQ (bd (a:=((A.length+ig.length:Nat):Int)) ?_ ?_))
     ·rw[<-e1];simp
     ·refine bd (a:=((),A++(ig++(y::(iM++B))))) ?_ ?_
      ·have hl2:(ig++iM).length=ig.length+iM.length:=RS
       have:=bwd h21 (g:=g) (x:=y) (A:=A++ig) _ iM B n rfl MO ah;rw[show ((A.length+(ig++iM).length:Nat):Int)=(((A++ig).length+iM.length:Nat):Int) by simp only[RS];omega,show ((A.length+ig.length:Nat):Int)=((A++ig).length:Nat) by rw[RS]];simp only[jR] at this⊢;exact this
      ·simp
   ·
    generalize hmid:(A.length+(A.length+U.length+V.length))/2=mid;have key2:∀(lo hi:Nat),A.length<=lo->hi<=A.length+U.length->hi<=mid->mid<=lo+V.length->lo<=hi->(lo=A.length\/mid=lo+V.length)->(hi=A.length+U.length\/hi=mid)->
     ∃(s:Nat) (ig iM V1 V2:List α),qM g (A.length:Int) ((A.length+U.length:Nat):Int) ((A.length+U.length+V.length:Nat):Int) (A++(U++(V++B))) n ((lo:Int),(hi:Int))=some (s:Int)/\U=ig++iM/\V=V1++V2/\s=A.length+ig.length/\mid=s+V1.length/\
      (∀a∈ig,∀b∈V2,key a<=key b)/\(∀a∈V1,∀b∈iM,key a<key b):=by
     intro lo hi q1 q2 q3 q4 q5 q6 q7;obtain⟨s,e1,e2,e3,e4,e5⟩:=aCX hc ME (g:=g) (n:=n) (A:=A) (U:=U) (V:=V) (B:=B) hmid.symm q1 q2 q3 q4 q5 hb hn;have f1:∀a∈U.take (s-A.length),∀b∈V.drop (mid-s),key a<=key b:=fun a ha b hb=>by obtain⟨i,i1,i2⟩:=adA ha;obtain⟨j,j1,j2⟩:=adB hb;have hj:j<V.length:=(by rw[qm] at j2;exact j2.1);have hs:lo<s:=(by clear e4 e5;omega);obtain⟨u,v,f1,f2,f3⟩:=e4 hs;have g1:=hU.le (i:=i) (j:=s-1-A.length) (by clear f1 f2 f3 e4 e5;omega) i2 f1;have g2:=hV.le (i:=mid-s) (j:=j) j1 f2 j2;exact Int.le_trans g1 (Int.le_trans f3 g2)
     have f2:∀a∈V.take (mid-s),∀b∈U.drop (s-A.length),key a<key b:=fun a ha b hb=>by obtain⟨i,i1,i2⟩:=adA ha;obtain⟨j,j1,j2⟩:=adB hb;have hj:j<U.length:=(by rw[qm] at j2;exact j2.1);have hs:s<hi:=(by clear e4 e5;omega);obtain⟨u,v,f1,f2,f3⟩:=e5 hs;have g1:=hV.le (i:=i) (j:=mid-1-s) (by clear f1 f2 f3 e4 e5;omega) i2 f2;have g2:=hU.le (i:=s-A.length) (j:=j) j1 f1 j2;exact Int.lt_of_le_of_lt g1 (Int.lt_of_lt_of_le f3 g2)
     exact⟨s,U.take (s-A.length),U.drop (s-A.length),V.take (mid-s),V.drop (mid-s),e1,(tq (s-A.length) U).symm,(tq (mid-s) V).symm,by clear e4 e5;rw[j3,Nc ah];omega,by clear e4 e5;rw[j3,Nc ah];omega,f1,f2⟩
    have part:∀(A' X Y B':List α),fP key X->fP key Y->X.length+Y.length<g->X.length+Y.length<n->(A'++(X++(Y++B'))).length<2^59->∃W,fP key W/\fD key W (X++Y)/\W.length=X.length+Y.length/\
     ((0<X.length/\0<Y.length)->S g ((),(A'.length:Int),((A'.length+X.length:Nat):Int),((A'.length+X.length+Y.length:Nat):Int),((),())) (A'++(X++(Y++B')))=some ((),A'++(W++B')))/\(¬(0<X.length/\0<Y.length)->W=X++Y):=by
     intro A' X Y B' hX hY hg' hn' hb';by_cases hxy:0<X.length/\0<Y.length
     ·obtain⟨W,w1,w2,w3,w4⟩:=sym g A' X Y B' hX hY hxy.1 hxy.2 hg' hn' hb'
      exact⟨W,w1,w2,w3,fun _=>w4,fun h=>absurd hxy h⟩
     ·refine⟨X++Y,?_,fD.refl _,by rw[RS],fun h=>absurd h hxy,fun _=>rfl⟩
      by_cases hX0:X.length=0
      ·rw[mh hX0];exact hY
      ·have:Y=[]:=mh ah
       rw[this,nV];exact hX
    have rest:∀(s:Nat)(ig iM V1 V2:List α),U=ig++iM->V=V1++V2->s=A.length+ig.length->mid=s+V1.length->(∀a∈ig,∀b∈V2,key a<=key b)->(∀a∈V1,∀b∈iM,key a<key b)->
     ∃W W1 D1 D2,fP key W/\fD key W (U++V)/\W.length=U.length+V.length/\
      (((bif decide ((s:Int)< ((A.length+U.length:Nat):Int)) then decide (((A.length+U.length:Nat):Int)< ((mid+(A.length+U.length)-s:Nat):Int)) else false)=true/\ro ((),(s:Int),((A.length+U.length:Nat):Int),((mid+(A.length+U.length)-s:Nat):Int),((),())) (A++(U++(V++B)))=some ((),D1))\/
        ((bif decide ((s:Int)< ((A.length+U.length:Nat):Int)) then decide (((A.length+U.length:Nat):Int)< ((mid+(A.length+U.length)-s:Nat):Int)) else false)=false/\A++(U++(V++B))=D1))/\
      (((bif decide ((A.length:Int)< (s:Int)) then decide ((s:Int)< (mid:Int)) else false)=true/\S g ((),(A.length:Int),(s:Int),(mid:Int),((),())) D1=some ((),D2))\/
        ((bif decide ((A.length:Int)< (s:Int)) then decide ((s:Int)< (mid:Int)) else false)=false/\D1=D2))/\
      (((bif decide ((mid:Int)< ((mid+(A.length+U.length)-s:Nat):Int)) then decide (((mid+(A.length+U.length)-s:Nat):Int)< ((A.length+U.length+V.length:Nat):Int)) else false)=true/\S g ((),(mid:Int),((mid+(A.length+U.length)-s:Nat):Int),((A.length+U.length+V.length:Nat):Int),((),())) D2=some ((),A++(W++B)))\/
        ((bif decide ((mid:Int)< ((mid+(A.length+U.length)-s:Nat):Int)) then decide (((mid+(A.length+U.length)-s:Nat):Int)< ((A.length+U.length+V.length:Nat):Int)) else false)=false/\D2=A++(W++B)))/\W1=D1:=by
     intro s ig iM V1 V2 aC0 eV es em F1 F2;subst aC0 eV;simp only[RS] at hb' hg hn hmid hu hv u1 v1;have adF:=List.pairwise_append.1 hU;have adG:=List.pairwise_append.1 hV;obtain⟨W1,a1,a2,a3,a4,a5⟩:=part A ig V1 (iM++(V2++B)) adF.1 adG.1 ah ah o9;obtain⟨W2,b1,b2,b3,b4,b5⟩:=part (A++W1) iM V2 B adF.2.1 adG.2.1 ah ah o9;refine⟨W1++W2,_,A++(ig++(V1++(iM++(V2++B)))),A++(W1++(iM++(V2++B))),?_,?_,o9,?_,?_,?_,rfl⟩
     ·refine fP.app a1 b1 fun a ha b hb=>?_
      rcases nG.1 (a2.mem ha) with ha|ha<;>rcases nG.1 (b2.mem hb) with hb|hb
      ·exact adF.2.2 a ha b hb
      ·exact F1 a ha b hb
      ·exact Int.le_of_lt (F2 a ha b hb)
      ·exact adG.2.2 a ha b hb
     ·refine(a2.app b2).trans ?_
      have:=((fD.refl (key:=key) ig).app (fD.swap F2)).app (fD.refl (key:=key) V2);simpa using this
     ·by_cases hh:0<iM.length/\0<V1.length
      ·refine .inl ⟨adD o9 o9,?_⟩
       have:=hro (A++ig) iM V1 (V2++B) hh.1 hh.2 o9 ah;rw[show (s:Int)=((A++ig).length:Nat) by rw[RS];omega,show ((A.length+(ig++iM).length:Nat):Int)=(((A++ig).length+iM.length:Nat):Int) by simp only[RS];omega,
        show ((mid+(A.length+(ig++iM).length)-s:Nat):Int)=(((A++ig).length+iM.length+V1.length:Nat):Int) by simp only[RS];omega]
       simp only[jR] at this⊢;exact this
      ·refine .inr ⟨adE o9,?_⟩
       by_cases h0:iM.length=0
       ·rw[mh h0];simp
       ·have:V1=[]:=mh ah
        rw[this];simp
     ·by_cases hh:0<ig.length/\0<V1.length
      ·refine .inl ⟨adD ah ah,?_⟩
       rw[show (s:Int)=((A.length+ig.length:Nat):Int) by omega,show (mid:Int)=((A.length+ig.length+V1.length:Nat):Int) by omega];exact a4 hh
      ·exact .inr ⟨adE ah,by rw[a5 hh];simp⟩
     ·by_cases hh:0<iM.length/\0<V2.length
      ·refine .inl ⟨adD o9 o9,?_⟩
       rw[show (mid:Int)=((A++W1).length:Nat) by rw[RS];omega,show ((mid+(A.length+(ig++iM).length)-s:Nat):Int)=(((A++W1).length+iM.length:Nat):Int) by simp only[RS];omega,
        show ((A.length+(ig++iM).length+(V1++V2).length:Nat):Int)=(((A++W1).length+iM.length+V2.length:Nat):Int) by simp only[RS];omega]
       have:=b4 hh;simp only[jR] at this⊢;exact this
      ·exact .inr ⟨adE o9,by rw[b5 hh];simp⟩
    have c1:((wrap .i64 (((A.length+U.length:Nat):Int)-(A.length:Int)))==(1:Int))=false:=MQ;have c2:((wrap .i64 (((A.length+U.length+V.length:Nat):Int)-((A.length+U.length:Nat):Int)))==(1:Int))=false:=MQ;have eN:wrap .i64 ((mid:Int)+((A.length+U.length:Nat):Int))=((mid+(A.length+U.length):Nat):Int):=Uc;have eM:=TJ (i:=A.length) (j:=A.length+U.length+V.length) ah;rw[hmid] at eM;have eE:∀s:Nat,s<=mid+(A.length+U.length)->s<2^60->wrap .i64 (((mid+(A.length+U.length):Nat):Int)-(s:Int))=((mid+(A.length+U.length)-s:Nat):Int):=fun s h1 h2=>Uc
    by_cases hmm:mid<A.length+U.length
    ·obtain⟨s,ig,iM,V1,V2,k1,k2,k3,k4,k5,k6,k7⟩:=key2 (mid+(A.length+U.length)-(A.length+U.length+V.length)) mid ah ah ah ah ah (.inr ah) (.inr rfl)
     obtain⟨W,W1,D1,D2,w1,w2,w3,H1,H2,H3,_⟩:=rest s ig iM V1 V2 k2 k3 k4 k5 k6 k7;refine⟨W,w1,w2,w3,jZ c1 (jZ c2 (iA rfl ?_))⟩;rw[eM,eN];refine kY (decide_eq_true ah) ?_;rw[eE (A.length+U.length+V.length) ah ah];refine bd k1 ?_
     (try dsimp only)
     rw[eE s ah ah];refine uG H1 ?_ (fun q1=>?_)
     ·refine uG H2 ?_ (fun q2=>?_)
      ·exact uG H3 rfl (fun q3=>Cy)
      ·subst q2;exact uG H3 rfl (fun q3=>Cy)
     ·subst q1
      refine uG H2 ?_ (fun q2=>?_)
      ·exact uG H3 rfl (fun q3=>Cy)
      ·subst q2;exact uG H3 rfl (fun q3=>Cy)
    ·obtain⟨s,ig,iM,V1,V2,k1,k2,k3,k4,k5,k6,k7⟩:=key2 A.length (A.length+U.length) ah ah ah ah ah (.inl rfl) (.inl rfl)
     obtain⟨W,W1,D1,D2,w1,w2,w3,H1,H2,H3,_⟩:=rest s ig iM V1 V2 k2 k3 k4 k5 k6 k7;refine⟨W,w1,w2,w3,jZ c1 (jZ c2 (iA rfl ?_))⟩;rw[eM,eN];refine jZ (decide_eq_false ah) (bd k1 ?_)
     (try dsimp only)
     rw[eE s ah ah];refine uG H1 ?_ (fun q1=>?_)
     ·refine uG H2 ?_ (fun q2=>?_)
      ·exact uG H3 rfl (fun q3=>Cy)
      ·subst q2;exact uG H3 rfl (fun q3=>Cy)
     ·subst q1
      refine uG H2 ?_ (fun q2=>?_)
      ·exact uG H3 rfl (fun q3=>Cy)
      ·subst q2;exact uG H3 rfl (fun q3=>Cy)
end
end So
end
section
open Go aR
namespace So
variable {α:Type}
def xD (key:α->Int)(bs:Nat)(L:List (List α)):Prop:=∀X∈L,X.length=bs/\fP key X
theorem xD.len {key:α->Int}{bs:Nat}:∀{L:List (List α)},xD key bs L->L.flatten.length=L.length*bs
 | [],_=>aD|X::L,h=>by rw[List.flatten_cons,RS,xD.len (fun Y hY=>h Y (iZ _ hY)),(h X (iw ..)).1,List.length_cons,rP];omega
theorem xD.app {key:α->Int}{bs:Nat}{L:List (List α)}{X:List α}(h:xD key bs L)(h1:X.length=bs)(h2:fP key X):xD key bs (L++[X]):=fun Y hY=>by
 rcases nG.1 hY with hY|hY
 ·exact h Y hY
 ·rw[jk.1 hY];exact⟨h1,h2⟩
theorem aoh (L:List (List α))(X:List α):(L++[X]).flatten=L.flatten++X:=aD
section
variable {key:α->Int}{n:Nat}{ins:Unit×Int×Int×(Unit×Unit)->List α->Option (PUnit×List α)}{sy:Unit×Int×Int×Int×(Unit×Unit)->List α->Option (PUnit×List α)}{L2:Int->Nat->(Int×Int)×List α->Option (Int×List α)}{uF:Int->Int->Nat->(Int×Int)×List α->Option (Int×List α)}{L7:Int->Nat->Int×List α->Option (PUnit×List α)}(hi:∀A W B:List α,(A++(W++B)).length<2^59->W.length+1<n->∃W',fP key W'/\fD key W' W/\W'.length=W.length/\ins ((),(A.length:Int),((A.length+W.length:Nat):Int),((),())) (A++(W++B))=some ((),A++(W'++B)))(hm:∀A U V B:List α,fP key U->fP key V->0<U.length->0<V.length->U.length+V.length<n->(A++(U++(V++B))).length<2^59->∃W,fP key W/\fD key W (U++V)/\W.length=U.length+V.length/\sy ((),(A.length:Int),((A.length+U.length:Nat):Int),((A.length+U.length+V.length:Nat):Int),((),())) (A++(U++(V++B)))=some ((),A++(W++B)))(h2:∀(x1:Int) (m:Nat) (x3 x4:Int) (x5:List α),L2 x1 (m+1) ((x3,x4),x5)=bif decide (x4<=x1) then (ins (((),(x3,(x4,((),()))))) x5).bind fun (r6:PUnit×List α)=>
    L2 x1 m (((x4,wrap .i64 (x4+(20:Int))),r6.2))else some ((x3,x5)))(h7:∀(x1:Int) (m:Nat) (dZ:Int) (x10:List α),L7 x1 (m+1) (dZ,x10)=bif decide (dZ<x1) then (uF x1 dZ n ((((0:Int),wrap .i64 ((2:Int)*dZ)),x10))).bind fun (jK:Int×List α)=>bif decide ((wrap .i64 (jK.1+dZ))<x1) then (sy (((),(jK.1,(wrap .i64 (jK.1+dZ),(x1,((),())))))) jK.2).bind fun (r16:PUnit×List α)=>
     L7 x1 m ((wrap .i64 (dZ*(2:Int)),r16.2))else L7 x1 m ((wrap .i64 (dZ*(2:Int)),jK.2))else some (((),x10)))(h9:∀(x1 dZ:Int) (m:Nat) (dN gI:Int) (Gg:List α),uF x1 dZ (m+1) ((dN,gI),Gg)=bif decide (gI<=x1) then (sy (((),(dN,(wrap .i64 (dN+dZ),(gI,((),())))))) Gg).bind fun (iX:PUnit×List α)=>
    uF x1 dZ m (((gI,wrap .i64 (gI+(wrap .i64 ((2:Int)*dZ)))),iX.2))else some ((dN,Gg)))
include hi hm h2 h7 h9
theorem st2 {N:Nat}(hN:N<2^58)(hn:N+1<n):∀(k:Nat)(L:List (List α))(R:List α)(m:Nat),xD key 20 L->R.length=k->(L.flatten++R).length=N->k<m->
 ∃L' R',xD key 20 L'/\R'.length<20/\fD key (L'.flatten++R') (L.flatten++R)/\(L'.flatten++R').length=N/\L2 (N:Int) m (((L.flatten.length:Int),((L.flatten.length+20:Nat):Int)),L.flatten++R)=some ((L'.flatten.length:Int),L'.flatten++R'):=by
 intro k;induction k using Nat.strongRecOn with
 |_ k ih=>
  intro L R m hL hR hl hk;obtain⟨m,rfl⟩:∃m',m=m'+1:=⟨m-1,ah⟩;have hl':=hl;rw[RS] at hl';rw[h2];by_cases hb:R.length<20
  ·exact⟨L,R,hL,hb,fD.refl _,hl,jZ (decide_eq_false ah) rfl⟩
  ·have hX:(R.take 20).length=20:=Cu
   obtain⟨W,w1,w2,w3,w4⟩:=hi L.flatten (R.take 20) (R.drop 20) (by rw[tq];omega) ah;have hY:(R.drop 20).length=R.length-20:=vZ;have hf:(L++[W]).flatten=L.flatten++W:=aoh L W;obtain⟨L',R',g1,g2,g3,g4,g5⟩:=ih (R.length-20) ah (L++[W]) (R.drop 20) m (hL.app (w3.trans hX) w1) hY (by rw[hf,RS,RS];omega) ah;refine⟨L',R',g1,g2,g3.trans ?_,g4,kY (decide_eq_true ah) (bd (a:=((),L.flatten++(W++R.drop 20))) ?_ ?_)⟩
   ·rw[hf,jR]
    refine(fD.refl _).app ?_;have:=w2.app (fD.refl (key:=key) (R.drop 20));rw[tq] at this;exact this
   ·rw[tq,hX] at w4;exact w4
   ·rw[wr ah ah]
    rw[<-g5,hf,RS,w3,hX,jR];rfl
theorem abA {N bs:Nat}(hbs:0<bs)(hbN:bs<N)(hN:N<2^57)(hn:N<n){R:List α}(hR:R.length<bs)(hRs:fP key R):∀(k:Nat)(P L:List (List α))(m:Nat),xD key (2*bs) P->xD key bs L->L.length=k->(P.flatten++(L.flatten++R)).length=N->k<m->
 ∃P' Q,xD key (2*bs) P'/\Q.length<2*bs/\(Q.length<=bs->fP key Q)/\(bs<Q.length->∃X,Q=X++R/\X.length=bs/\fP key X)/\fD key (P'.flatten++Q) (P.flatten++(L.flatten++R))/\(P'.flatten++Q).length=N/\
  uF (N:Int) (bs:Int) m (((P.flatten.length:Int),((P.flatten.length+2*bs:Nat):Int)),P.flatten++(L.flatten++R))=some ((P'.flatten.length:Int),P'.flatten++Q):=by
 intro k;induction k using Nat.strongRecOn with
 |_ k ih=>
  intro P L m hP hL hk hl hm';obtain⟨m,rfl⟩:∃m',m=m'+1:=⟨m-1,ah⟩;have hl':=hl;simp only[RS] at hl';rw[h9]
  match L,hL,hk,hl,hl' with
  | [],_,_,hl,hl'=>simp only[List.flatten_nil,List.length_nil,List.nil_append] at hl'⊢;exact⟨P,R,hP,ah,fun _=>hRs,fun h=>ah,fD.refl _,xI,jZ (decide_eq_false ah) rfl⟩
  | [X],hL,_,hl,hl'=>obtain⟨x1,x2⟩:=hL X (iw ..);have e:[X].flatten=X:=aD;rw[e] at hl hl'⊢;refine⟨P,X++R,hP,Ct,fun h=>?_,fun h=>⟨X,rfl,x1,x2⟩,fD.refl _,by rw[RS,RS];omega,jZ (decide_eq_false ah) rfl⟩;have:R=[]:=mh (by rw[RS] at h;omega);rw[this,nV];exact x2
  |X::Y::L,hL,hk,hl,hl'=>
   obtain⟨x1,x2⟩:=hL X (iw ..);obtain⟨y1,y2⟩:=hL Y (iZ _ (iw ..));simp only[List.flatten_cons,jR,RS] at hl'⊢;obtain⟨W,w1,w2,w3,w4⟩:=hm P.flatten X Y (L.flatten++R) x2 y2 ah ah ah o9;have hf:(P++[W]).flatten=P.flatten++W:=aoh P W;obtain⟨P',Q,g1,g2,g3,g4,g5,g6,g7⟩:=ih L.length (by simp only[List.length_cons] at hk;omega) (P++[W]) L m (hP.app ah w1) (fun Z hZ=>hL Z (iZ _ (iZ _ hZ))) rfl (by rw[hf];simp only[RS];omega) (by simp only[List.length_cons] at hk;omega);refine⟨P',Q,g1,g2,g3,g4,g5.trans ?_,(by simpa using g6),kY (decide_eq_true ah) (bd (a:=((),P.flatten++(W++(L.flatten++R)))) ?_ ?_)⟩
   ·rw[hf,jR]
    refine(fD.refl _).app ?_;have:=w2.app (fD.refl (key:=key) (L.flatten++R));rw[jR] at this;exact this
   ·rw[wr ah ah,show (P.flatten.length:Int)+(bs:Int)=((P.flatten.length+X.length:Nat):Int) by omega,show ((P.flatten.length+2*bs:Nat):Int)=((P.flatten.length+X.length+Y.length:Nat):Int) by omega]
    exact w4
   ·rw[show wrap .i64 ((2:Int)*(bs:Int))=((2*bs:Nat):Int) by rw[wr ah ah];omega,wr ah ah]
    rw[<-g7,hf,RS,w3,jR,show X.length+Y.length=2*bs by omega];rfl
theorem abz {N:Nat}(hN:N<2^57)(hn:N<n):∀(k bs:Nat)(L:List (List α))(R:List α)(m:Nat),N-bs=k->0<bs->bs<2^58->xD key bs L->R.length<bs->fP key R->(L.flatten++R).length=N->k<m->
 ∃D,fP key D/\fD key D (L.flatten++R)/\D.length=N/\L7 (N:Int) m ((bs:Int),L.flatten++R)=some ((),D):=by
 intro k;induction k using Nat.strongRecOn with
 |_ k ih=>
  intro bs L R m hk hbs hbb hL hR hRs hl hm';obtain⟨m,rfl⟩:∃m',m=m'+1:=⟨m-1,ah⟩;rw[h7];by_cases hb:bs<N
  ·obtain⟨P',Q,g1,g2,g3,g4,g5,g6,g7⟩:=abA hi hm h2 h7 h9 hbs hb hN hn hR hRs L.length [] L n (fun _ h=>bL) hL rfl xI (by have h1:=hL.len;rw[RS] at hl;have:L.length<=L.length*bs:=Nat.le_mul_of_pos_right _ hbs;omega)
   have e0:((([]:List (List α)).flatten.length:Nat):Int)=0:=rfl;have e1:wrap .i64 ((2:Int)*(bs:Int))=((([]:List (List α)).flatten.length+2*bs:Nat):Int):=by rw[wr ah ah];simp
   have e2:wrap .i64 ((bs:Int)*(2:Int))=((2*bs:Nat):Int):=Uc
   have aoi:fD key (P'.flatten++Q) (L.flatten++R):=g5;have aoj:=g6;rw[RS] at aoj;by_cases hq:bs<Q.length
   ·obtain⟨X,rfl,x1,x2⟩:=g4 hq
    clear g4 g3;rw[RS] at aoj hq g2;obtain⟨W,w1,w2,w3,w4⟩:=hm P'.flatten X R [] x2 hRs ah ah ah (by simp only[RS,List.length_nil];omega);obtain⟨D,d1,d2,d3,d4⟩:=ih (N-2*bs) ah (2*bs) P' W m rfl ah ah g1 ah w1 Ct ah;refine⟨D,d1,(d2.trans ((fD.refl _).app w2)).trans aoi,d3,kY (decide_eq_true ah) (bd (a:=((P'.flatten.length:Int),P'.flatten++(X++R))) (by rw[e1];exact g7) ?_)⟩;rw[e2];refine kY (decide_eq_true (by show wrap .i64 ((P'.flatten.length:Int)+(bs:Int))<_;rw[wr ah ah];omega)) (bd (a:=((),P'.flatten++W)) ?_ d4);show sy ((),((P'.flatten.length:Int),(wrap .i64 ((P'.flatten.length:Int)+(bs:Int)),((N:Int),((),()))))) (P'.flatten++(X++R))=_;rw[wr ah ah,show (P'.flatten.length:Int)+(bs:Int)=((P'.flatten.length+X.length:Nat):Int) by omega,show (N:Int)=((P'.flatten.length+X.length+R.length:Nat):Int) by omega];simpa using w4
   ·clear g4
    have Px:=g3 ah;clear g3;obtain⟨D,d1,d2,d3,d4⟩:=ih (N-2*bs) ah (2*bs) P' Q m rfl ah ah g1 g2 Px g6 ah;refine⟨D,d1,d2.trans aoi,d3,kY (decide_eq_true ah) (bd (a:=((P'.flatten.length:Int),P'.flatten++Q)) (by rw[e1];exact g7) ?_)⟩;rw[e2];exact jZ (decide_eq_false (by show¬wrap .i64 ((P'.flatten.length:Int)+(bs:Int))<_;rw[wr ah ah];omega)) d4
  ·refine⟨L.flatten++R,?_,fD.refl _,hl,jZ (decide_eq_false ah) rfl⟩
   have h1:=hL.len;have hl':=hl;rw[RS] at hl'
   match L,hL,h1,hl' with
   | [],_,_,_=>simpa using hRs| [X],hL,h1,hl'=>have:R=[]:=mh (by simp only[List.length_cons,List.length_nil] at h1;omega);rw[this];simpa using (hL X (iw ..)).2|X::Y::L,_,h1,hl'=>exfalso;simp only[List.length_cons] at h1;have:2*bs<=(L.length+1+1)*bs:=rO _ ah;omega
variable {st:Unit×Int×(Unit×Unit)->List α->Option (PUnit×List α)}(hs:∀(x1:Int) (x2:List α),st (((),(x1,((),())))) (x2)=
   (L2 x1 n ((((0:Int),(20:Int)),x2))).bind fun (r7:Int×List α)=>(ins (((),(r7.1,(x1,((),()))))) r7.2).bind fun (r8:PUnit×List α)=>(L7 x1 n (((20:Int),r8.2))).bind fun (qJ:PUnit×List α)=>some (((),qJ.2)))
include hs
theorem stable {D:List α}(hN:D.length<2^57)(hn:D.length+21<n):∃D',fP key D'/\fD key D' D/\D'.length=D.length/\st ((),(D.length:Int),((),())) D=some ((),D'):=by obtain⟨L,R,g1,g2,g3,g4,g5⟩:=st2 hi hm h2 h7 h9 (N:=D.length) ah ah _ [] D n (fun _ h=>bL) rfl rfl ah;have hl:=g4;rw[RS] at hl;obtain⟨R',r1,r2,r3,r4⟩:=hi L.flatten R [] (by simp only[RS,List.length_nil];omega) ah;obtain⟨D',d1,d2,d3,d4⟩:=abz hi hm h2 h7 h9 hN ah _ 20 L R' n rfl ah ah g1 ah r1 Ct ah;refine⟨D',d1,(d2.trans ((fD.refl _).app r2)).trans g3,d3,?_⟩;rw[hs];refine bd (a:=((L.flatten.length:Int),L.flatten++R)) g5 (bd (a:=((),L.flatten++R')) ?_ (bd (a:=((),D')) d4 rfl));show ins ((),((L.flatten.length:Int),((D.length:Int),((),())))) (L.flatten++R)=_;rw[show (D.length:Int)=((L.flatten.length+R.length:Nat):Int) by omega];simpa using r4
end
end So
end
section
open Go Go.Proofs aR
namespace Sh
theorem aC1 (n:Nat)(a b:Int):∃r:Int,UP n (a,b)=some r/\(r<0↔a<b):=by
 have h1:∀x:Int,We n x=some false:=fun x=>(ajG n x).trans (congrArg (some (α:=Bool)) aD);have key:∀z:Option Int,(bif decide (a<b) then some (-1:Int) else bif decide (a>b) then some (1:Int) else some (0:Int))=z->UP n (a,b)=z:=fun z hz=>by rw[ajH];exact So.bd (h1 a) (So.bd (h1 b) hz)
 by_cases e1:a<b
 ·exact⟨-1,key _ (So.kY (decide_eq_true e1) rfl),ah⟩
 ·by_cases e2:a>b
  ·exact⟨1,key _ (So.jZ (decide_eq_false e1) (So.kY (decide_eq_true e2) rfl)),ah⟩
  ·exact⟨0,key _ (So.jZ (decide_eq_false e1) (So.jZ (decide_eq_false e2) rfl)),ah⟩
theorem aC2 (n:Nat):So.TH (fun e:Entry=>e.ID) (fun p=>UB n p):=fun a b=>by
 obtain⟨r,h1,h2⟩:=aC1 n a.ID b.ID;exact⟨r,(aAo n a b).trans (So.bd h1 rfl),h2⟩
theorem aC3 {n:Nat}{D:List Entry}(hN:D.length<2^57)(hn:D.length+21<n):∃D',So.fP (fun e:Entry=>e.ID) D'/\So.fD (fun e:Entry=>e.ID) D' D/\D'.length=D.length/\
 JS n (((),((),()))) D=some ((),D'):=by
 have hc:=aC2 n;have h4:=fun x1 x2 x4 m x6 x7=>aAp n x1 x2 x4 m x6 x7;have h1:=fun x1 x2 m x4 x5=>aAq n x1 x2 m x4 x5;have hsw:∀(A X M Y B:List Entry),X.length=Y.length->(A++X++M++Y++B).length<2^61->X.length<n->yO n ((),(A.length:Int),((A.length+X.length+M.length:Nat):Int),(X.length:Int),((),())) (A++X++M++Y++B)=some ((),A++Y++M++X++B):=fun A X M Y B e hb hn=>by rw[aAt];have:=So.aog (α:=Entry) (L1:=fun a b c m p=>SE n a b c m p) (fun x1 x2 x3 m x5 x6=>aAs n x1 x2 x3 m x5 x6) (A:=A) (M:=M) (B:=B) X Y [] [] n e rfl GD hn;simp only[List.nil_append,List.length_nil,nH] at this;exact So.bd (a:=((),A++Y++M++X++B)) this rfl
 have hro:∀A U V B:List Entry,0<U.length->0<V.length->(A++(U++V)++B).length<2^61->U.length+V.length<n->Aq n ((),(A.length:Int),((A.length+U.length:Nat):Int),((A.length+U.length+V.length:Nat):Int),((),())) (A++(U++V)++B)=some ((),A++(V++U)++B):=fun A U V B hu hv hb hn=>by rw[aAv];simp only[RS] at hb;rw[So.wr ah ah,So.wr ah ah,show ((A.length+U.length:Nat):Int)-(A.length:Int)=(U.length:Int) by omega,show ((A.length+U.length+V.length:Nat):Int)-((A.length+U.length:Nat):Int)=(V.length:Int) by omega];exact So.aCV (α:=Entry) (n:=n) (TI:=fun p q=>yO n p q) hsw (L2:=fun a m p=>Mg n a m p) (fun x2 m x5 x6 x7=>aAu n x2 m x5 x6 x7) hu hv o9 hn
 have hi:∀A W B:List Entry,(A++(W++B)).length<2^59->W.length+1<n->∃W',So.fP (fun e:Entry=>e.ID) W'/\So.fD (fun e:Entry=>e.ID) W' W/\W'.length=W.length/\Ap n ((),(A.length:Int),((A.length+W.length:Nat):Int),((),())) (A++(W++B))=some ((),A++(W'++B)):=fun A W B hb hn=>by obtain⟨W',w1,w2,w3,w4⟩:=So.aCR (α:=Entry) (cmp:=fun p=>UB n p) hc (L4:=fun a b c m p=>SB n a b c m p) h4 (n:=n) (L1:=fun a b m p=>SC n a b m p) h1 (A:=A) (W:=W) (B:=B) ah hn;refine⟨W',w1,w2,w3,?_⟩;rw[aAr];exact So.bd (a:=((),A++(W'++B))) w4 rfl
 have hm:∀A U V B:List Entry,So.fP (fun e:Entry=>e.ID) U->So.fP (fun e:Entry=>e.ID) V->0<U.length->0<V.length->U.length+V.length<n->(A++(U++(V++B))).length<2^59->∃W,So.fP (fun e:Entry=>e.ID) W/\So.fD (fun e:Entry=>e.ID) W (U++V)/\W.length=U.length+V.length/\
  QP n ((),(A.length:Int),((A.length+U.length:Nat):Int),((A.length+U.length+V.length:Nat):Int),((),())) (A++(U++(V++B)))=some ((),A++(W++B)):=fun A U V B hU hV hu hv hn hb=>by
  obtain⟨W,w1,w2,w3,w4⟩:=So.sym (α:=Entry) (cmp:=fun p=>UB n p) hc (n:=n) (L3:=fun g a l m p=>Mh n g a l m p) (uF:=fun g a m p=>SF n g a m p) (sV:=fun g a l m p=>Mi n g a l m p) (El:=fun g a m p=>SG n g a m p) (qM:=fun g a b c l m p=>Gc n g a b c l m p)
   (ro:=fun p q=>Aq n p q) (S:=fun g p q=>kW n g p q)
   (fun g x1 x4 m x5 x6=>aAw n g x1 x4 m x5 x6) (fun g r m x y=>aAx n g r m x y) (fun g x2 x4 m x y=>aAy n g x2 x4 m x y) (fun g r m x y=>aAz n g r m x y) (fun g x1 x2 x3 x4 m x y=>aAA n g x1 x2 x3 x4 m x y) hro
   (fun g x1 x2 x3 x4=>aAB n g x1 x2 x3 x4) n A U V B hU hV hu hv hn hn hb
  exact⟨W,w1,w2,w3,by unfold QP;exact w4⟩
 obtain⟨D',d1,d2,d3,d4⟩:=So.stable (α:=Entry) (key:=fun e:Entry=>e.ID) (n:=n) (ins:=fun p q=>Ap n p q) (sy:=fun p q=>QP n p q) (L2:=fun a m p=>SX n a m p) (uF:=fun a b m p=>SY n a b m p) (L7:=fun a m p=>Mj n a m p) hi hm
  (fun x1 m x3 x4 x5=>aAC n x1 m x3 x4 x5) (fun x1 m x y=>aAE n x1 m x y) (fun x1 dZ m a b c=>aAD n x1 dZ m a b c) (st:=fun p q=>DT n p q) (fun x1 x2=>aAF n x1 x2) (D:=D) hN hn
 refine⟨D',d1,d2,d3,?_⟩;rw[aAG];exact So.bd (a:=((),D')) d4 rfl
def Ye (a:Snapshot)(r:Row):Bool:=bif bif bif decide (r.Entry.From<=a.Day) then decide (a.Day<r.Entry.To) else false then decide (r.Entry.iV<=a.aS) else false then bif r.nC==(0:Int) then true else decide (r.nC>a.aS) else false
def sW (a:Snapshot)(l:List Row):List Entry:=(l.filter (Ye a)).map (·.Entry)
theorem aC4 {n:Nat}{b:Book}{a:Snapshot}(hb:b.Rows.length<2^29):∀(k i:Nat)(acc:List Entry)(m:Nat),i+k=b.Rows.length->acc.length<=i->k<m->
 Mk n b a m (((),(i:Int)),acc)=some ((),acc++sW a (b.Rows.drop i)):=by
 intro k;induction k with
 |zero=>
  intro i acc m hi _ hm;obtain⟨m,rfl⟩:∃m',m=m'+1:=⟨m-1,ah⟩;obtain rfl:i=b.Rows.length:=ah
  rw[am6];refine So.jZ (decide_eq_false ah) ?_;rw[List.drop_length];simp[sW]
 |succ k ih=>
  intro i acc m hi ha hm;obtain⟨m,rfl⟩:∃m',m=m'+1:=⟨m-1,ah⟩;have hlt:i<b.Rows.length:=ah
  have hx:b.Rows[i]? =some b.Rows[i]:=jc hlt;rw[am6,gJ ah,uJ hlt];refine So.kY (decide_eq_true ah) (So.bd (eB hx) ?_);cases hv:Ye a b.Rows[i] with
  |true=>refine So.kY hv (So.iA (Ee En ah) ?_);rw[ih (i+1) (acc++[b.Rows[i].Entry]) m ah (by rw[RS];simp only[List.length_cons,List.length_nil];omega) ah];unfold sW;rw[zx hv,fQ,jR];rfl|false=>refine So.jZ hv ?_;rw[ih (i+1) acc m ah ah ah];unfold sW;rw[GQ (by rw[hv];simp)]
theorem aC5 {n:Nat}{b:Book}{a:Snapshot}(hb:b.Rows.length<2^29)(hn:b.Rows.length+21<n):∃D,So.fP (fun e:Entry=>e.ID) D/\So.fD (fun e:Entry=>e.ID) D (sW a b.Rows)/\D.length<=b.Rows.length/\DU n (b,a)=some D:=by
 have hl:(sW a b.Rows).length<=b.Rows.length:=by unfold sW;rw[iG];exact List.length_filter_le _ _
 obtain⟨D,d1,d2,d3,d4⟩:=aC3 (n:=n) (D:=sW a b.Rows) ah ah;refine⟨D,d1,d2,ah,?_⟩;rw[aAH];refine So.bd (a:=((),sW a b.Rows)) ?_ (So.bd (a:=((),D)) d4 rfl);have:=aC4 (n:=n) (a:=a) hb b.Rows.length 0 [] n ah (iP _) ah;simpa using this
end Sh
end
section
open Go Go.Proofs aR
namespace Sh
theorem aok {α:Type}{key:α->Int}:∀{D D':List α},So.fP key D->So.fP key D'->So.fD key D D'->D=D'
 | [],[],_,_,_=>rfl| [],b::D',_,_,h=>by have:=h (key b);rw[List.filter_nil,zx aD] at this;cases this|a::D,[],_,_,h=>by have:=h (key a);rw[List.filter_nil,zx aD] at this;cases this|a::D,b::D',h1,h2,h=>by
  obtain⟨h1a,h1b⟩:=List.pairwise_cons.1 h1;obtain⟨aC6,aC7⟩:=List.pairwise_cons.1 h2;have ka:=h (key a);have kb:=h (key b);have hle:∀{x:α}{l:List α},(∀y∈l,key x<=key y)->∀z∈x::l,key x<=key z:=fun hh z hz=>by
   rcases fV.1 hz with rfl|hz
   ·exact Int.le_refl _
   ·exact hh z hz
  have m1:a∈(b::D').filter fun x=>key x==key a:=by rw[<-ka];exact xM.2 ⟨iw ..,aD⟩
  have m2:b∈(a::D).filter fun x=>key x==key b:=by rw[kb];exact xM.2 ⟨iw ..,aD⟩
  have l1:=hle aC6 a (xM.1 m1).1;have l2:=hle h1a b (xM.1 m2).1;have e:key b=key a:=Int.le_antisymm l1 l2;have hk:=ka;rw[zx aD,zx zn] at hk;injection hk with e1 e2
  subst e1;rw[aok h1b aC7 fun k=>?_];have hk:=h k;by_cases c:key a=k
  ·rw[zx Cw,zx Cw] at hk
   injection hk
  ·rw[GQ Cw,GQ Cw] at hk
   exact hk
theorem aC8 {n:Nat}{b:Book}{a:Snapshot}{i:Int}{x:Row}(hx:aN b.Rows i=some x)(A:List Entry)(hA:A.length<2^60):∀(k m:Nat)(z:Entry),k<=A.length->k<m->(∀y∈A.drop k,y.ID>x.Entry.ID)->
 ∃(k':Nat) (z':Entry),Ti n b a i m ((k:Int),A.take k++z::A.drop k)=some ((k':Int),A.take k'++z'::A.drop k')/\k'<=A.length/\(∀y∈A.drop k',y.ID>x.Entry.ID)/\(k'=0\/∃y,A[k'-1]? =some y/\y.ID<=x.Entry.ID):=by
 intro k;induction k with
 |zero=>intro m z hk hm hy;obtain⟨m,rfl⟩:∃m',m=m'+1:=⟨m-1,ah⟩;exact⟨0,z,by rw[ani];rfl,hk,hy,.inl rfl⟩
 |succ k ih=>
  intro m z hk hm hy;obtain⟨m,rfl⟩:∃m',m=m'+1:=⟨m-1,ah⟩;have hk1:k<A.length:=ah
  have hlen:(A.take (k+1)++z::A.drop (k+1)).length=A.length+1:=by rw[RS,j3,List.length_cons,vZ];omega
  have ht:A.take (k+1)=A.take k++[A[k]]:=by rw[List.take_add_one,jc hk1];rfl
  have hg:(A.take (k+1)++z::A.drop (k+1))[k]? =some A[k]:=by rw[Eu Cu,List.getElem?_take_of_lt ah,jc hk1]
  have hg1:(A.take (k+1)++z::A.drop (k+1))[k+1]? =some z:=by rw[List.getElem?_append_right Cu,j3];rw[show k+1-min (k+1) A.length=0 by omega];rfl
  have hw:wrap .i64 (((k+1:Nat):Int)-(1:Int))=((k:Nat):Int):=by rw[ado ah ah];rfl
  have hset:dH (A.take (k+1)++z::A.drop (k+1)) ((k+1:Nat):Int) A[k]=A.take k++A[k]::A.drop k:=by
   have e:(A.take (k+1)).length=k+1:=Cu
   have:=set_mid (A.take (k+1)) z A[k] (A.drop (k+1));rw[e] at this;rw[this,ht,jR];congr 1;show A[k]::A[k]::A.drop (k+1)=_;rw[<-uJ hk1]
  rw[ani,decide_eq_true ah,cond_true,hw,Gq (by rw[hlen];omega),cond_true];by_cases c:A[k].ID>x.Entry.ID
  ·obtain⟨k',z',h1,h2⟩:=ih m A[k] ah ah (fun y hy'=>by
    rw[uJ hk1] at hy';rcases fV.1 hy' with rfl|hy'
    ·exact c
    ·exact hy y hy')
   refine⟨k',z',?_,h2⟩;refine bs (eB hg) (bs hx ?_);rw[decide_eq_true c,cond_true];refine bs (eB hg) ?_;rw[Gq (by rw[hlen];omega),cond_true];refine bs (eB hg1) ?_;rw[hset];exact h1
  ·refine⟨k+1,z,?_,hk,hy,.inr ⟨A[k],jc hk1,ah⟩⟩
   refine bs (eB hg) (bs hx ?_);rw[decide_eq_false c,cond_false]
theorem aC9 {A:List Entry}{x:Entry}{k:Nat}(hs:So.fP (fun e:Entry=>e.ID) A)(h1:∀y∈A.drop k,y.ID>x.ID)(h2:k=0\/∃y,A[k-1]? =some y/\y.ID<=x.ID):
 So.fP (fun e:Entry=>e.ID) (A.take k++x::A.drop k)/\So.fD (fun e:Entry=>e.ID) (A.take k++x::A.drop k) (A++[x]):=by
 have h3:∀y∈A.take k,y.ID<=x.ID:=by
  rcases h2 with rfl| ⟨z,hz,hzx⟩
  ·intro y hy;cases hy
  ·intro y hy
   obtain⟨j,hj,e⟩:=List.mem_take_iff_getElem.1 hy;have hk:=lW hz;rw[jc hk] at hz;cases hz;rw[<-e];by_cases c:j=k-1
   ·subst c;exact hzx
   ·have:=List.pairwise_iff_getElem.1 hs j (k-1) ah hk ah
    exact Int.le_trans this hzx
 constructor
 ·have e:A.take k++A.drop k=A:=tq k A
  rw[<-e] at hs;obtain⟨p1,p2,p3⟩:=List.pairwise_append.1 hs;refine List.pairwise_append.2 ⟨p1,List.pairwise_cons.2 ⟨fun y hy=>Int.le_of_lt (h1 y hy),p2⟩,fun y hy z hz=>?_⟩;rcases fV.1 hz with rfl|hz
  ·exact h3 y hy
  ·exact p3 y hy z hz
 ·intro j
  have e:A.filter (fun a=>a.ID==j)=(A.take k).filter (fun a=>a.ID==j)++(A.drop k).filter (fun a=>a.ID==j):=by rw[<-xP,tq]
  rw[xP,xP,e];by_cases c:x.ID=j
  ·have:(A.drop k).filter (fun a=>a.ID==j)=[]:=by rw[List.filter_eq_nil_iff];intro y hy hyj;have:=h1 y hy;have:y.ID=j:=(by simpa using hyj);omega
   rw[zx Cw,this,zx Cw,nV,List.filter_nil]
  ·rw[GQ Cw,GQ Cw,List.filter_nil,nV]
theorem aDa {n:Nat}{b:Book}{a:Snapshot}(hn:b.Rows.length+1<n)(hb:b.Rows.length<2^29):∀(k i:Nat)(D L:List Entry)(m:Nat),i+k=b.Rows.length->D.length<=i->k<m->So.fP (fun e:Entry=>e.ID) D->So.fD (fun e:Entry=>e.ID) D L->
 ∃D',Gh n b a m (((),(i:Int)),D)=some ((),D')/\So.fP (fun e:Entry=>e.ID) D'/\So.fD (fun e:Entry=>e.ID) D' (L++sW a (b.Rows.drop i)):=by
 intro k;induction k with
 |zero=>
  intro i D L m hi _ hm h1 h2;obtain⟨m,rfl⟩:∃m',m=m'+1:=⟨m-1,ah⟩;obtain rfl:i=b.Rows.length:=ah
  refine⟨D,?_,h1,?_⟩
  ·rw[anj,decide_eq_false ah];rfl
  ·rw[List.drop_length]
   simpa [sW] using h2
 |succ k ih=>
  intro i D L m hi hD hm h1 h2;obtain⟨m,rfl⟩:∃m',m=m'+1:=⟨m-1,ah⟩;have hlt:i<b.Rows.length:=ah
  have hx:b.Rows[i]? =some b.Rows[i]:=jc hlt;rw[anj,gJ ah,uJ hlt,jY hx,cond_true];have Yf:Lj n (((⟨b.Rows[i].Entry,b.Rows[i].nC⟩:Row),a))=some (Ye a b.Rows[i]):=aBd ..;cases hv:Ye a b.Rows[i] with
  |true=>
   rw[hv] at Yf;obtain⟨k',z',g1,g2,g3,g4⟩:=aC8 (n:=n) (a:=a) (eB hx) D ah D.length n b.Rows[i].Entry (iP _) ah (fun y hy=>by rw[List.drop_length] at hy;cases hy);rw[List.take_length,List.drop_length] at g1;obtain⟨s1,s2⟩:=aC9 h1 g3 g4;have hset:dH (D.take k'++z'::D.drop k') (k':Int) b.Rows[i].Entry=D.take k'++b.Rows[i].Entry::D.drop k':=by have e:(D.take k').length=k':=Cu;have:=set_mid (D.take k') z' b.Rows[i].Entry (D.drop k');rw[e] at this;exact this
   have hlen:(D.take k'++z'::D.drop k').length=D.length+1:=by rw[RS,j3,List.length_cons,vZ];omega
   obtain⟨D',d1,d2,d3⟩:=ih (i+1) (D.take k'++b.Rows[i].Entry::D.drop k') (L++[b.Rows[i].Entry]) m ah (by
    rw[RS,j3,List.length_cons,vZ];omega) ah s1 (fun j=>by
    rw[s2 j,xP,xP,h2 j])
   refine⟨D',?_,d2,?_⟩
   ·refine bs (eB hx) (bs Yf ?_)
    rw[cond_true];refine bs (eB hx) ?_;rw[Ee En ah,cond_true];refine bs g1 (bs (eB hx) ?_);have hk':k'< (D.take k'++z'::D.drop k').length:=(by rw[hlen];omega);show (bif decide (0<=(k':Int)/\(k':Int)< (((D.take k'++z'::D.drop k').length:Nat):Int)) then _ else none)=_;rw[Gq hk',cond_true];refine bs (eB (jc hk')) ?_;show Gh n b a m (((),((i+1:Nat):Int)),dH (D.take k'++z'::D.drop k') (k':Int) b.Rows[i].Entry)=_;rw[hset];exact d1
   ·unfold sW at d3⊢
    rw[zx hv,fQ];rw[jR] at d3;exact d3
  |false=>
   rw[hv] at Yf;obtain⟨D',d1,d2,d3⟩:=ih (i+1) D L m ah ah ah h1 h2;refine⟨D',?_,d2,?_⟩
   ·exact bs (eB hx) (bs Yf d1)
   ·unfold sW at d3⊢
    rw[GQ (by rw[hv];simp)];exact d3
theorem aol {n:Nat}{b:Book}{a:Snapshot}(hb:b.Rows.length<=65536)(hn:2^20<n):∃D:List Entry,DU n (b,a)=some D/\F3 n (b,a)=some D/\D.length<=b.Rows.length/\∀e∈D,∃r∈b.Rows,r.Entry=e:=by
 obtain⟨D,d1,d2,d3,d4⟩:=aC5 (n:=n) (b:=b) (a:=a) ah ah;obtain⟨D',e1,e2,e3⟩:=aDa (n:=n) (b:=b) (a:=a) ah ah b.Rows.length 0 [] [] n ah aD ah .nil (fun _=>rfl);have e3:So.fD (fun e:Entry=>e.ID) D' (sW a b.Rows):=by simpa using e3
 have hD:D=D':=aok d1 e2 (fun k=>(d2 k).trans (e3 k).symm);refine⟨D,d4,?_,d3,fun e he=>?_⟩
 ·rw[aBe,hD]
  exact bs e1 rfl
 ·have:e∈D.filter fun x=>x.ID==e.ID:=xM.2 ⟨he,aD⟩
  rw[d2 e.ID] at this;have:=(xM.1 this).1;unfold sW at this;obtain⟨r,hr,he⟩:=xL.1 this;exact⟨r,(xM.1 hr).1,he⟩
end Sh
end
section
namespace aR
open Go
section
variable {R:iI}{E:Env}{ρ:aV}{b:Nat}{st:aH R.T}{fr:Fr}{σ:ak}
theorem aO.sub {st':aH R.T}(h:aO ρ b st fr σ)(hf:∀i v,look st'.fr i=some v->look st.fr i=some v)(ho:∀o x,look st'.ob o=some x->look st.ob o=some x):aO ρ b st' fr σ:=
 {h with fr:=fun i v hv=>h.fr i v (hf i v hv),ob:=fun o x hx=>h.ob o x (ho o x hx)}
theorem dW.typed (hR:qE R)(hE:kQ E){n:Nat}{aj:Bool}{F:Nat->List (fC R)}{I:IR R}(hF:aZ E F)(hI:mK E I){A:bC}{c:Code}(hw:sN E c=true){β:Type}{k:Ex->aH R.T->Option β}{x:β}(bO:ρ.aj.aj=aj)(h:fK E R n aj F I A c st k=some x)(hi:aO ρ σ.next st fr σ){Q:Ex->Fr->ak->Prop}(hq:∀e fr' σ' ρ' st',aO ρ' σ'.next st' fr' σ'->Kp (jW E c) (bJ E c) st fr σ ρ st' fr' σ' ρ'->k e st'=some x->Q e fr' σ'):dW E c fr σ Q:=
 dW.cw hE ((ru hR hF hI c hw β st k x fr σ ρ bO h hi).mono fun e fr' σ' ⟨ρ',st',h1,h2,h3⟩=>hq e fr' σ' ρ' st' h1 h2 h3)
end
end aR
end
