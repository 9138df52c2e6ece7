import Derived.ChangeCalls
import Derived.Test.YtabmooekodficaaGreatDoorF4427
set_option linter.all false
section
open Go Go.Proofs Aq
namespace Sh
set_option maxRecDepth 100000
attribute [local irreducible] fM
theorem ad7 {n k:Nat} (h2:2<=k) (h:k<=2^40):∀(d j m:Nat),j+d=Nat.log2 (k-1)->d<m->zV n ((k:Nat):Int) m ((2^j:Nat):Int)=some ((aJ k:Nat):Int):=by
 intro d
 have hl:Nat.log2 (k-1)<41:=(Nat.log2_lt (by omega)).2 (by omega)
 induction d with
 |zero=>
  intro j m hj hm
  obtain⟨m,rfl⟩:∃m',m=m'+1:=⟨m-1,by omega⟩
  obtain rfl:j=Nat.log2 (k-1):=by omega
  have h1:k-1<2^(Nat.log2 (k-1)+1):=Nat.lt_log2_self
  have h3:2^Nat.log2 (k-1)<=k-1:=Nat.log2_self_le (by omega)
  rw[Nat.pow_succ] at h1
  rw[RB,aW (by omega) (by omega),decide_eq_false (by omega)]
  rfl
 |succ d ih=>
  intro j m hj hm
  obtain⟨m,rfl⟩:∃m',m=m'+1:=⟨m-1,by omega⟩
  have h1:2^(j+1)<=k-1:=(Nat.le_log2 (by omega)).1 (by omega)
  have h3:2^(j+1)=2*2^j:=by rw[Nat.pow_succ,afk]
  rw[RB,aW (by omega) (by omega),decide_eq_true (by omega),cond_true]
  have:=ih (j+1) m (by omega) (by omega)
  rw[h3] at this
  rw[show (2:Int)*((2^j:Nat):Int)=((2*2^j:Nat):Int) by omega]
  exact this
theorem Ef {n k:Nat} (h2:2<=k) (h:k<=2^40) (hn:200<n):o7 n ((k:Nat):Int)=some ((aJ k:Nat):Int):=by
 have hl:Nat.log2 (k-1)<41:=(Nat.log2_lt (by omega)).2 (by omega)
 rw[adU]
 exact bs (ad7 h2 h (Nat.log2 (k-1)) 0 n (by omega) (by omega)) rfl
theorem JA {n:Nat} (hn:200<n) (a b:ah):nD n (a,b)=some (fM 31 [aY a,aY b]):=by
 have la:(aY a).length=16:=rfl
 have lb:(aY b).length=16:=rfl
 have le:∀d:ah,(bB (aY d)).length=17:=fun d=>rfl
 have hsz:dN bB [aY a,aY b]=34:=by show (bB (aY a)).length+((bB (aY b)).length+0)=34;rw[le,le]
 rw[adW]
 refine bs (Js (n:=n) (t:=31) (ls:=[aY a,aY b]) (fun x hx=>?_) (by rw[hsz];decide) (by rw[hsz];omega) (by show 2<n;omega) (by omega) (by show 2<2^62;decide)) rfl
 rcases aeQ.1 hx with rfl|hx
 ·omega
 ·rw[aeH.1 hx];omega
theorem ad8 {l:List ah} (h:l≠[]) (hb:l.length<2^62):idxL l (IntKind.wrap .i64 (((l.length:Nat):Int)-1))=some (dM l)/\inB (IntKind.wrap .i64 (((l.length:Nat):Int)-1)) l.length=true/\List.take (Int.toNat (IntKind.wrap .i64 (((l.length:Nat):Int)-1))) l=l.dropLast:=by
 have hp:=afo.2 h
 rw[aW (by omega) (by omega),show ((l.length:Nat):Int)-1=((l.length-1:Nat):Int) by omega]
 refine⟨?_,?_,?_⟩
 ·unfold idxL dM
  rw[if_pos ⟨by omega,by omega⟩,Int.toNat_natCast,List.getLast?_eq_getElem?]
  cases hq:l[l.length-1]? with
  |none=>exact absurd (List.getElem?_eq_none_iff.1 hq) (by omega)
  |some x=>rfl
 ·unfold inB;exact decide_eq_true (by omega)
 ·rw[Int.toNat_natCast,List.dropLast_eq_take]
theorem ad9 {N:Nat} (hN:200<N) {leaf:ah}:∀(g g':Nat) (i n:Int) (l:List ah) (sh:Bool),n.toNat<=g->n.toNat<=g'->1<=n->n<=2^40->0<=i->i<n->l.length<2^62->
 ∃(d d':ah) (l':List ah) (b:Bool),lG oH kH leaf g i n l sh=some (d,(l',sh||b))/\vU N g' (leaf,(i,(n,l)))=some ⟨d', !b&& l'.isEmpty⟩/\(b=false->d'=d):=by
 intro g
 induction g with
 |zero=>intro g' i n l sh h1 h2 h3;omega
 |succ g ih=>
  intro g' i n l sh h1 h2 h3 h4 h5 h6 hl
  obtain⟨g',rfl⟩:∃m,g'=m+1:=⟨g'-1,by omega⟩
  unfold lG
  rw[ad3]
  by_cases hn:n=1
  ·subst hn
   refine⟨leaf,leaf,l,false,?_,?_,fun _=>rfl⟩
   ·rw[show ((1:Int)==1)=true from rfl,cond_true,Bool.or_false]
   ·rw[show ((1:Int)==1)=true from rfl,cond_true]
    cases l with
    |nil=>rfl
    |cons x l=>rw[show ((((x::l).length:Nat):Int)==0)=false by simp;omega];rfl
  ·have hn1:(n==1)=false:=by simpa using hn
   rw[hn1,cond_false,cond_false]
   obtain⟨m,rfl⟩:∃m:Nat,n=m:=⟨n.toNat,by omega⟩
   obtain⟨k1,k2⟩:=vJ (n:=m) (by omega)
   have hS:kH ((m:Nat):Int)=some ((aJ m:Nat):Int):=by
    unfold kH;rw[if_pos ⟨by omega,h4⟩,Int.toNat_natCast]
   have hR:=Ef (n:=N) (k:=m) (by omega) (by omega) hN
   rw[hS,Option.bind_some]
   generalize aJ m=k at k1 k2 hR
   by_cases h0:l=[]
   ·subst h0
    rw[show ((((([]:List ah).length:Nat)):Int)==0)=true from rfl,cond_true]
    cases hik:decide (i< ((k:Nat):Int)) with
    |true=>
     have:=of_decide_eq_true hik
     obtain⟨d,d',l',b,e1,_,_⟩:=ih g i ((k:Nat):Int) [] (sh||true) (by omega) (by omega) (by omega) (by omega) h5 this (by simp)
     rw[cond_true,show (([]:List ah).dropLast)=[] from rfl,show (([]:List ah).isEmpty)=true from rfl,e1,Option.bind_some]
     exact⟨fM 31 [aY d,aY (dM [])],_,l',true,by simp[oH],rfl,fun h=>by cases h⟩
    |false=>
     have:=of_decide_eq_false hik
     rw[cond_false,aW (by omega) (by omega),aW (by omega) (by omega)]
     obtain⟨d,d',l',b,e1,_,_⟩:=ih g (i-k) ((m:Int)-k) [] (sh||true) (by omega) (by omega) (by omega) (by omega) (by omega) (by omega) (by simp)
     rw[show (([]:List ah).dropLast)=[] from rfl,show (([]:List ah).isEmpty)=true from rfl,e1,Option.bind_some]
     exact⟨fM 31 [aY (dM []),aY d],_,l',true,by simp[oH],rfl,fun h=>by cases h⟩
   ·have hem:l.isEmpty=false:=by cases l with
     |nil=>exact absurd rfl h0
     |cons x l=>rfl
    have hz:((((l.length:Nat)):Int)==0)=false:=by
     have:=afo.2 h0
     rw[beq_eq_false_iff_ne];omega
    obtain⟨q1,q2,q3⟩:=ad8 h0 hl
    rw[hz,cond_false,hem,Bool.or_false]
    have hdl:l.dropLast.length<2^62:=by rw[List.length_dropLast];omega
    cases hik:decide (i< ((k:Nat):Int)) with
    |true=>
     have:=of_decide_eq_true hik
     obtain⟨d,d',l',b,e1,e2,e3⟩:=ih g' i ((k:Nat):Int) l.dropLast sh (by omega) (by omega) (by omega) (by omega) h5 this hdl
     rw[cond_true,e1,Option.bind_some]
     refine⟨fM 31 [aY d,aY (dM l)],fM 31 [aY d',aY (dM l)],l',b,rfl,bs hR (bs q1 ?_),fun h=>by rw[e3 h]⟩
     rw[q2,cond_true,hik,cond_true]
     rw[<-q3] at e2
     exact bs e2 (bs (JA hN _ _) rfl)
    |false=>
     have:=of_decide_eq_false hik
     have w1:IntKind.wrap .i64 (i-((k:Nat):Int))=i-((k:Nat):Int):=aW (by omega) (by omega)
     have w2:IntKind.wrap .i64 (((m:Nat):Int)-((k:Nat):Int))=((m:Nat):Int)-((k:Nat):Int):=aW (by omega) (by omega)
     rw[cond_false,w1,w2]
     obtain⟨d,d',l',b,e1,e2,e3⟩:=ih g' (i-k) ((m:Int)-k) l.dropLast sh (by omega) (by omega) (by omega) (by omega) (by omega) (by omega) hdl
     rw[e1,Option.bind_some]
     refine⟨fM 31 [aY (dM l),aY d],fM 31 [aY (dM l),aY d'],l',b,rfl,bs hR (bs q1 ?_),fun h=>by rw[e3 h]⟩
     rw[q2,cond_true,hik,cond_false]
     rw[<-q3,<-w1,<-w2] at e2
     exact bs e2 (bs (JA hN _ _) rfl)
theorem RH (x y:ah):lH x y=((x.b0==y.b0)&& ((x.b1==y.b1)&& ((x.b2==y.b2)&& ((x.b3==y.b3)&& ((x.b4==y.b4)&& ((x.b5==y.b5)&& ((x.b6==y.b6)&& ((x.b7==y.b7)&& ((x.b8==y.b8)&& ((x.b9==y.b9)&& ((x.b10==y.b10)&& ((x.b11==y.b11)&& ((x.b12==y.b12)&& ((x.b13==y.b13)&& ((x.b14==y.b14)&& ((x.b15==y.b15)&& true)))))))))))))))):=by
 cases x;cases y;kernel_rfl
theorem aea {N:Nat} (hN:2^40<=N) {leaf root:ah} {i n:Int} {l:List ah} (hl:l.length<2^62):∃b:Bool,l8 N (leaf,(i,(n,(l,root))))=some b/\qW N (leaf,(i,(n,(l,root))))=some b:=by
 have hm:l8 N (leaf,(i,(n,(l,root))))=chkF leaf i n l root:=Rt N (leaf,(i,(n,(l,root))))
 suffices h:∃b:Bool,chkF leaf i n l root=some b/\qW N (leaf,(i,(n,(l,root))))=some b by
  obtain⟨b,h1,h2⟩:=h
  exact⟨b,hm.trans h1,h2⟩
 rw[ad4]
 unfold chkF
 rw[if_pos hl]
 unfold uz
 have hc:(bif bif bif decide (n< (1:Int)) then true else decide (n> (1099511627776:Int)) then true else decide (i< (0:Int)) then true else decide (i>=n))=(decide (n<1)||decide (n>1099511627776)||decide (i<0)||decide (i>=n)):=by
  cases decide (n<1)<;>cases decide (n>1099511627776)<;>cases decide (i<0)<;>rfl
 rw[hc]
 cases he:(decide (n<1)||decide (n>1099511627776)||decide (i<0)||decide (i>=n)) with
 |true=>exact⟨false,rfl,rfl⟩
 |false=>
  simp only[ae8,decide_eq_false_iff_not] at he
  obtain⟨⟨⟨a1,a2⟩,a3⟩,a4⟩:=he
  obtain⟨g,rfl⟩:∃g,N=g+1:=⟨N-1,by omega⟩
  obtain⟨d,d',l',b,e1,e2,e3⟩:=ad9 (N:=g+1) (leaf:=leaf) (by omega) n.toNat (g+1) i n l false (iP _) (by omega) (by omega) (by omega) (by omega) (by omega) hl
  have e2':vV (g+1) (leaf,(i,(n,l)))=some ⟨d', !b&& l'.isEmpty⟩:=by unfold vV;exact e2
  refine⟨lH d root&& !(false||b)&& l'.isEmpty,by rw[cond_false,e1];rfl,?_⟩
  rw[cond_false]
  refine bs e2' ?_
  congr 1
  show (bif (!b&& l'.isEmpty) then _ else false)=_
  cases b with
  |true=>cases lH d root<;>rfl
  |false=>
   rw[e3 rfl,RH]
   cases l'.isEmpty
   ·simp
   ·simp
end Sh
end
section
open Go Go.Proofs Aq
namespace Sh
set_option maxRecDepth 100000
attribute [local irreducible] fM
def Eh (a b:ah):ah:=fM 31 [aY a,aY b]
def vX:ah:=fM 32 []
theorem aeb {n:Nat} (a b:ah) (hn:2^20<n):u6 n (a,b)=some (Eh a b):=by
 have la:(aY a).length=16:=rfl
 have lb:(aY b).length=16:=rfl
 have le:∀d:ah,(bB (aY d)).length=17:=fun d=>rfl
 have hsz:dN bB [aY a,aY b]=34:=by show (bB (aY a)).length+((bB (aY b)).length+0)=34;rw[le,le]
 rw[QB]
 refine bs (Dw (n:=n) (t:=31) (ls:=[aY a,aY b]) (fun x hx=>?_) (by rw[hsz];decide) (by rw[hsz];omega) (by show 2<n;omega) (by omega) (by show 2<2^62;decide)) rfl
 rcases aeQ.1 hx with rfl|hx
 ·omega
 ·rw[aeH.1 hx];omega
theorem aec {n:Nat} (a b:ah) (hn:2^20<n):nD n (a,b)=some (Eh a b):=JA (by omega) a b
theorem aed {n:Nat} (hn:2^20<n):vL n ()=some vX:=by
 rw[adQ]
 exact bs (Dw (n:=n) (t:=32) (ls:=[]) (fun x hx=>by cases hx) (by decide) (by show 0<n;omega) (by show 0<n;omega) (by omega) (by decide)) rfl
theorem aee {n:Nat} (hn:2^20<n):vN n ()=some vX:=by
 rw[adV]
 exact bs (Js (n:=n) (t:=32) (ls:=[]) (fun x hx=>by cases hx) (by decide) (by show 1+0<n;omega) (by show 0<n;omega) (by omega) (by decide)) rfl
def cZ:Nat->List ah->ah
 |0,_=>vX
 |g+1,l=>if l.length=0 then vX else if l.length=1 then l.headD vX else Eh (cZ g (l.take (aJ l.length))) (cZ g (l.drop (aJ l.length)))
theorem RI {l:List ah} (h:l.length=1):idxL l 0=some (l.headD vX):=by
 cases l with
 |nil=>simp at h
 |cons a l=>unfold idxL;rw[if_pos ⟨afJ 0,by simp⟩];rfl
theorem aef {n:Nat} (hn:2^20<n):∀(g:Nat) (l:List ah),l.length<g->l.length<=65536->oW n g l=some (cZ g l):=by
 intro g
 induction g with
 |zero=>intro l h;omega
 |succ g ih=>
  intro l h hb
  rw[adR]
  unfold cZ
  by_cases h0:l.length=0
  ·rw[if_pos h0,h0,show ((((0:Nat):Int))==0)=true from rfl,cond_true]
   exact bs (aed hn) rfl
  ·rw[if_neg h0,show ((((l.length:Nat):Int))==0)=false by rw[beq_eq_false_iff_ne];omega,cond_false]
   by_cases h1:l.length=1
   ·rw[if_pos h1,show ((((l.length:Nat):Int))==1)=true by rw[beq_iff_eq];omega,cond_true]
    exact bs (RI h1) rfl
   ·rw[if_neg h1,show ((((l.length:Nat):Int))==1)=false by rw[beq_eq_false_iff_ne];omega,cond_false]
    obtain⟨k1,k2⟩:=vJ (n:=l.length) (by omega)
    refine bs (zo (by omega) (by omega)) ?_
    rw[Int.toNat_natCast,Int.toNat_natCast,lS (i:=((aJ l.length:Nat):Int)) (n:=l.length) ⟨by omega,by omega⟩,lS (i:=((aJ l.length:Nat):Int)) (n:=aJ l.length) ⟨by omega,by omega⟩,lS (i:=((l.length:Nat):Int)) (n:=l.length) ⟨by omega,by omega⟩]
    refine gR rfl (bs (ih (l.take (aJ l.length)) (by rw[aev];omega) (by rw[aev];omega)) (gR rfl ?_))
    have hd:List.drop (aJ l.length) (List.take l.length l)=l.drop (aJ l.length):=by rw[List.take_length]
    refine bs (o:=oW n g _) (a:=cZ g (l.drop (aJ l.length))) ?_ (bs (aeb _ _ hn) rfl)
    exact(congrArg (oW n g) hd).trans (ih (l.drop (aJ l.length)) (by rw[aex];omega) (by rw[aex];omega))
theorem aeg {n:Nat} (hn:2^20<n):∀(g:Nat) (l:List ah),l.length<g->l.length<=65536->vO n g l=some (cZ g l):=by
 intro g
 induction g with
 |zero=>intro l h;omega
 |succ g ih=>
  intro l h hb
  rw[adX]
  unfold cZ
  by_cases h0:l.length=0
  ·rw[if_pos h0,h0,show ((((0:Nat):Int))==0)=true from rfl,cond_true]
   exact bs (aee hn) rfl
  ·rw[if_neg h0,show ((((l.length:Nat):Int))==0)=false by rw[beq_eq_false_iff_ne];omega,cond_false]
   by_cases h1:l.length=1
   ·rw[if_pos h1,show ((((l.length:Nat):Int))==1)=true by rw[beq_iff_eq];omega,cond_true]
    exact bs (RI h1) rfl
   ·rw[if_neg h1,show ((((l.length:Nat):Int))==1)=false by rw[beq_eq_false_iff_ne];omega,cond_false]
    obtain⟨k1,k2⟩:=vJ (n:=l.length) (by omega)
    refine bs (Ef (by omega) (by omega) (by omega)) ?_
    rw[Int.toNat_natCast,lS (i:=((aJ l.length:Nat):Int)) ⟨by omega,by omega⟩]
    exact gR rfl (bs (ih (l.take (aJ l.length)) (by rw[aev];omega) (by rw[aev];omega)) (gR rfl (bs (ih (l.drop (aJ l.length)) (by rw[aex];omega) (by rw[aex];omega)) (bs (aec _ _ hn) rfl))))
theorem Ei {n:Nat} {l:List ah} (hn:2^20<n) (hb:l.length<=65536):lY n l=some (cZ n l):=by
 unfold lY;exact aef hn n l (by omega) hb
theorem JB {n:Nat} {l:List ah} (hn:2^20<n) (hb:l.length<=65536):o8 n l=some (cZ n l):=by
 unfold o8;exact aeg hn n l (by omega) hb
theorem RJ {n:Nat} {l:List ah} {d:ah} (h:l.length<2^20):qU n (l,d)=some (l++[d]):=by
 rw[adY]
 exact gR (qO (by omega) (by decide)) (gR (qO (by simp;omega) (by decide)) (by rw[List.nil_append];rfl))
theorem Ej (root:List ah->Option ah) (split:Int->Option Int) (g:Nat) (l:List ah) (i:Int):jQ root split (g+1) l i=bif Nat.beq l.length 1 then some [] else (split ((l.length:Nat):Int)).bind fun k=>bif decide (0<=k/\k<=((l.length:Nat):Int)) then
 (bif decide (i<k) then (jQ root split g (l.take k.toNat) i).bind fun p=>(root (l.drop k.toNat)).map fun d=>p++[d]
  else (jQ root split g (l.drop k.toNat) (IntKind.wrap .i64 (i-k))).bind fun p=>(root (l.take k.toNat)).map fun d=>p++[d]) else none:=rfl
theorem aeh {n:Nat} (hn:2^20<n):∀(g g':Nat) (l:List ah) (i:Int),l.length<g->l.length<g'->1<=l.length->l.length<=65536->0<=i->i< (l.length:Nat)->∃p:List ah,jQ (lY n) (lN n) g l i=some p/\vP n g' (l,i)=some p/\p.length<l.length+1:=by
 intro g
 induction g with
 |zero=>intro g' l i h;omega
 |succ g ih=>
  intro g' l i h h' h1 hb i0 i1
  obtain⟨g',rfl⟩:∃q,g'=q+1:=⟨g'-1,by omega⟩
  by_cases he:l.length=1
  ·refine⟨[],(Ej _ _ _ _ _).trans (bT (by rw[he];rfl) rfl),(Jz _ _ _ _).trans (bT (by rw[he];rfl) rfl),by simp⟩
  ·obtain⟨k1,k2⟩:=vJ (n:=l.length) (by omega)
   have hne:Nat.beq l.length 1=false:=by
    cases hq:Nat.beq l.length 1 with
    |false=>rfl
    |true=>exact absurd (afx hq) he
   have hn1:((((l.length:Nat):Int))==1)=false:=by rw[beq_eq_false_iff_ne];omega
   have hk:decide ((0:Int)<=((aJ l.length:Nat):Int)/\((aJ l.length:Nat):Int)<=((l.length:Nat):Int))=true:=decide_eq_true ⟨by omega,by omega⟩
   have hin:inB ((aJ l.length:Nat):Int) l.length=true:=lS ⟨by omega,by omega⟩
   cases hik:decide (i< ((aJ l.length:Nat):Int)) with
   |true=>
    have hik':=of_decide_eq_true hik
    obtain⟨p,e1,e2,e3⟩:=ih g' (l.take (aJ l.length)) i (by rw[aev];omega) (by rw[aev];omega) (by rw[aev];omega) (by rw[aev];omega) i0 (by rw[aev];omega)
    rw[aev] at e3
    have e4:=Ei (n:=n) (l:=l.drop (aJ l.length)) hn (by rw[aex];omega)
    have e5:=JB (n:=n) (l:=l.drop (aJ l.length)) hn (by rw[aex];omega)
    refine⟨p++[cZ n (l.drop (aJ l.length))],?_,?_,by rw[aaG,List.length_singleton];omega⟩
    ·refine(Ej _ _ _ _ _).trans (bF hne (bs (zo (by omega) (by omega)) (bT hk (bT hik ?_))))
     rw[Int.toNat_natCast]
     refine bs e1 ?_
     exact congrArg (fun o:Option ah=>o.map fun d=>p++[d]) e4
    ·refine(Jz _ _ _ _).trans (bF hn1 (bs (Ef (by omega) (by omega) (by omega)) (bT hik ?_)))
     rw[Int.toNat_natCast,hin]
     exact gR rfl (bs e2 (gR rfl (bs e5 (bs (RJ (by omega)) rfl))))
   |false=>
    have hik':=of_decide_eq_false hik
    obtain⟨p,e1,e2,e3⟩:=ih g' (l.drop (aJ l.length)) (i-((aJ l.length:Nat):Int)) (by rw[aex];omega) (by rw[aex];omega) (by rw[aex];omega) (by rw[aex];omega) (by omega) (by rw[aex];omega)
    rw[aex] at e3
    have e4:=Ei (n:=n) (l:=l.take (aJ l.length)) hn (by rw[aev];omega)
    have e5:=JB (n:=n) (l:=l.take (aJ l.length)) hn (by rw[aev];omega)
    refine⟨p++[cZ n (l.take (aJ l.length))],?_,?_,by rw[aaG,List.length_singleton];omega⟩
    ·refine(Ej _ _ _ _ _).trans (bF hne (bs (zo (by omega) (by omega)) (bT hk (bF hik ?_))))
     rw[Int.toNat_natCast,aW (i:=i-((aJ l.length:Nat):Int)) (by omega) (by omega)]
     refine bs e1 ?_
     exact congrArg (fun o:Option ah=>o.map fun d=>p++[d]) e4
    ·refine(Jz _ _ _ _).trans (bF hn1 (bs (Ef (by omega) (by omega) (by omega)) (bF hik ?_)))
     rw[Int.toNat_natCast,hin,aW (i:=i-((aJ l.length:Nat):Int)) (by omega) (by omega)]
     exact gR rfl (bs e2 (gR rfl (bs e5 (bs (RJ (by omega)) rfl))))
theorem aei {n:Nat} {l:List ah} {i:Int} (hn:2^20<n) (hb:l.length<=65536):∃(p:List ah) (e:Int),nC n (l,i)=some (p,e)/\vR n (l,i)=some (⟨p,e⟩:bR)/\((i<0\/i>=(l.length:Nat))->e=1/\p=[])/\(¬(i<0\/i>=(l.length:Nat))->e=0)/\p.length<=65536:=by
 rw[Rh,adZ]
 unfold vK
 by_cases h0:i<0
 ·rw[decide_eq_true h0]
  exact⟨[],1,rfl,rfl,fun _=>⟨rfl,rfl⟩,fun h=>absurd (.inl h0) h,by simp⟩
 ·rw[decide_eq_false h0,Bool.false_or,cond_false]
  by_cases h1:i>=(l.length:Nat)
  ·rw[decide_eq_true h1]
   exact⟨[],1,rfl,rfl,fun _=>⟨rfl,rfl⟩,fun h=>absurd (.inr h1) h,by simp⟩
  ·rw[decide_eq_false h1,cond_false,cond_false,decide_eq_true (show l.length<2^29 by omega),cond_true]
   obtain⟨p,e1,e2,e3⟩:=aeh hn (l.length+1) n l i (by omega) (by omega) (by omega) hb (by omega) (by omega)
   refine⟨p,0,by rw[e1];rfl,?_,fun h=>?_,fun _=>rfl,by omega⟩
   ·refine bs (o:=vQ n (l,i)) (a:=p) ?_ rfl
    unfold vQ;exact e2
   ·rcases h with h|h
    ·exact absurd h h0
    ·exact absurd h h1
end Sh
end
section
open Go Go.Proofs Aq
namespace Sh
set_option maxRecDepth 100000
theorem aej (x y:ah):lH x y=true↔x=y:=by
 rw[RH]
 cases x;cases y
 simp only[RS,beq_iff_eq,ah.mk.injEq,and_true]
theorem zX:∀(g g':Nat) (l:List ah),l.length<g->l.length<g'->cZ g l=cZ g' l:=by
 intro g
 induction g with
 |zero=>intro g' l h;omega
 |succ g ih=>
  intro g' l h h'
  obtain⟨g',rfl⟩:∃m,g'=m+1:=⟨g'-1,by omega⟩
  unfold cZ
  by_cases h0:l.length=0
  ·rw[if_pos h0,if_pos h0]
  ·rw[if_neg h0,if_neg h0]
   by_cases h1:l.length=1
   ·rw[if_pos h1,if_pos h1]
   ·rw[if_neg h1,if_neg h1]
    obtain⟨k1,k2⟩:=vJ (n:=l.length) (by omega)
    rw[ih g' (l.take (aJ l.length)) (by rw[aev];omega) (by rw[aev];omega),ih g' (l.drop (aJ l.length)) (by rw[aex];omega) (by rw[aex];omega)]
theorem RL (p:List ah) (d:ah):dM (p++[d])=d:=by
 unfold dM;rw[List.getLast?_concat];rfl
theorem aek {n:Nat} (hn:2^20<n) {x:ah} {root:List ah->Option ah} {split:Int->Option Int} (RN:∀l:List ah,l.length<=65536->root l=some (cZ n l)) (ael:∀k:Nat,2<=k->k<=65536->split ((k:Nat):Int)=some ((aJ k:Nat):Int)):∀(g g2:Nat) (l:List ah) (i:Nat) (p:List ah),l.length<g->l.length<=g2->l.length<=65536->l[i]? =some x->jQ root split g l (i:Int)=some p->
 lG oH kH x g2 (i:Int) ((l.length:Nat):Int) p false=some (cZ (l.length+1) l,([],false)):=by
 intro g
 induction g with
 |zero=>intro g2 l i p h;omega
 |succ g ih=>
  intro g2 l i p h h2 hb hx hp
  have hlt:=Jg hx
  obtain⟨g2,rfl⟩:∃m,g2=m+1:=⟨g2-1,by omega⟩
  rw[Ej] at hp
  unfold lG
  by_cases he:l.length=1
  ·rw[show Nat.beq l.length 1=true by rw[he];rfl,cond_true] at hp
   cases hp
   rw[show ((((l.length:Nat):Int))==1)=true by rw[beq_iff_eq];omega,cond_true]
   have hi:i=0:=by omega
   subst hi
   have:cZ (l.length+1) l=x:=by
    unfold cZ
    rw[if_neg (by omega),if_pos he]
    cases l with
    |nil=>simp at he
    |cons a l=>simpa using hx
   rw[this]
  ·have hne:Nat.beq l.length 1=false:=by
    cases hq:Nat.beq l.length 1 with
    |false=>rfl
    |true=>exact absurd (afx hq) he
   have hn1:((((l.length:Nat):Int))==1)=false:=by rw[beq_eq_false_iff_ne];omega
   obtain⟨k1,k2⟩:=vJ (n:=l.length) (by omega)
   have hk:decide ((0:Int)<=((aJ l.length:Nat):Int)/\((aJ l.length:Nat):Int)<=((l.length:Nat):Int))=true:=decide_eq_true ⟨by omega,by omega⟩
   have hS:kH ((l.length:Nat):Int)=some ((aJ l.length:Nat):Int):=by
    unfold kH;rw[if_pos ⟨by omega,by omega⟩,Int.toNat_natCast]
   have hroot:cZ (l.length+1) l=Eh (cZ l.length (l.take (aJ l.length))) (cZ l.length (l.drop (aJ l.length))):=by
    conv=>lhs;unfold cZ
    rw[if_neg (by omega),if_neg he]
   rw[hne,cond_false,ael _ (by omega) (by omega),Option.bind_some,hk,cond_true] at hp
   rw[hn1,cond_false,hS,Option.bind_some,hroot]
   cases hik:decide ((i:Int)< ((aJ l.length:Nat):Int)) with
   |true=>
    have hik':=of_decide_eq_true hik
    rw[hik,cond_true,Int.toNat_natCast,RN _ (by rw[aex];omega)] at hp
    obtain⟨p',hp1,hp2⟩:=iR.1 hp
    cases hp2
    have hx':(l.take (aJ l.length))[i]? =some x:=by rw[List.getElem?_take_of_lt (by omega)];exact hx
    have e:=ih g2 (l.take (aJ l.length)) i p' (by rw[aev];omega) (by rw[aev];omega) (by rw[aev];omega) hx' hp1
    rw[aev,afC (by omega)] at e
    rw[cond_true,List.dropLast_concat,show (p'++[cZ n (l.drop (aJ l.length))]).isEmpty=false by simp,Bool.or_false,e,Option.bind_some,RL,zX (aJ l.length+1) l.length (l.take (aJ l.length)) (by rw[aev];omega) (by rw[aev];omega),zX n l.length (l.drop (aJ l.length)) (by rw[aex];omega) (by rw[aex];omega)]
    rfl
   |false=>
    have hik':=of_decide_eq_false hik
    rw[hik,cond_false,Int.toNat_natCast,RN _ (by rw[aev];omega),aW (by omega) (by omega),show (i:Int)-((aJ l.length:Nat):Int)=((i-aJ l.length:Nat):Int) by omega] at hp
    obtain⟨p',hp1,hp2⟩:=iR.1 hp
    cases hp2
    have hx':(l.drop (aJ l.length))[i-aJ l.length]? =some x:=by rw[List.getElem?_drop,show aJ l.length+(i-aJ l.length)=i by omega];exact hx
    have e:=ih g2 (l.drop (aJ l.length)) (i-aJ l.length) p' (by rw[aex];omega) (by rw[aex];omega) (by rw[aex];omega) hx' hp1
    rw[aex] at e
    rw[cond_false,aW (by omega) (by omega),aW (by omega) (by omega),show (i:Int)-((aJ l.length:Nat):Int)=((i-aJ l.length:Nat):Int) by omega,show ((l.length:Nat):Int)-((aJ l.length:Nat):Int)=((l.length-aJ l.length:Nat):Int) by omega,List.dropLast_concat,show (p'++[cZ n (l.take (aJ l.length))]).isEmpty=false by simp,Bool.or_false,e,Option.bind_some,RL,zX (l.length-aJ l.length+1) l.length (l.drop (aJ l.length)) (by rw[aex];omega) (by rw[aex];omega),zX n l.length (l.take (aJ l.length)) (by rw[aev];omega) (by rw[aev];omega)]
    rfl
theorem aem {n:Nat} (hn:2^20<n) {l:List ah} {i:Nat} {x:ah} {p:List ah} (hb:l.length<=65536) (hx:l[i]? =some x) (hpl:p.length<=65536) (hp:nC n (l,(i:Int))=some (p,(0:Int))):l8 n (x,((i:Int),(((l.length:Nat):Int),(p,cZ n l))))=some true:=by
 have hlt:=Jg hx
 have hm:l8 n (x,((i:Int),(((l.length:Nat):Int),(p,cZ n l))))=chkF x (i:Int) ((l.length:Nat):Int) p (cZ n l):=Rt n _
 rw[hm]
 rw[Rh] at hp
 unfold vK at hp
 rw[decide_eq_false (show¬(i:Int)<0 by omega),Bool.false_or,decide_eq_false (show¬(i:Int)>=((l.length:Nat):Int) by omega),cond_false,decide_eq_true (show l.length<2^29 by omega),cond_true] at hp
 obtain⟨p',hp1,hp2⟩:=aat.1 hp
 cases hp2
 have e:=aek hn (root:=lY n) (split:=lN n) (fun l h=>Ei hn h) (fun k h h'=>zo h (by omega)) (l.length+1) l.length l i p (by omega) (iP _) hb hx hp1
 unfold chkF
 rw[if_pos (by omega)]
 unfold uz
 rw[decide_eq_false (show¬((l.length:Nat):Int)<1 by omega),decide_eq_false (show¬((l.length:Nat):Int)>1099511627776 by omega),decide_eq_false (show¬(i:Int)<0 by omega),decide_eq_false (show¬(i:Int)>=((l.length:Nat):Int) by omega)]
 show (lG oH kH x ((l.length:Nat):Int).toNat (i:Int) ((l.length:Nat):Int) p false).map _=_
 rw[Int.toNat_natCast,e,Option.map_some,zX (l.length+1) n l (by omega) (by omega),(aej _ _).2 rfl]
 rfl
end Sh
end
section
open Go Go.Proofs Aq
namespace Sh
set_option maxRecDepth 100000
attribute [local irreducible] fM
def FewG (hs:List Hood):Prop:=hs.length<=30/\∀h∈hs,h.Slots.length<=40
theorem aen {n:Nat} {g:Graph} (hn:100<n):∃b:Bool,QP n g=some b/\(b=true->FewG g.Hoods):=by
 by_cases h25:g.Hoods.length<=30
 ·have key:∀c (i m:Nat),i+c=g.Hoods.length->c<m->∃r:PUnit⊕Bool,QP_L4 n g m (i:Int)=some r/\((r= .inl ()/\∀v∈g.Hoods.drop i,v.Slots.length<=40)\/r= .inr false):=by
   intro c
   induction c with
   |zero=>
    intro i m hi hm
    obtain⟨m,rfl⟩:∃m',m=m'+1:=⟨m-1,by omega⟩
    rw[QP_L4_s,oP (by omega),aft (by omega)]
    exact⟨_,rfl,.inl ⟨rfl,fun v hv=>by cases hv⟩⟩
   |succ c ih=>
    intro i m hi hm
    obtain⟨m,rfl⟩:∃m',m=m'+1:=⟨m-1,by omega⟩
    have hlt:i<g.Hoods.length:=by omega
    have hy:g.Hoods[i]? =some g.Hoods[i]:=afb hlt
    rw[QP_L4_s,oN hy,oO (by omega),cond_true,afy hlt,lQ hy,Option.bind_some]
    by_cases h:((g.Hoods[i].Slots.length:Nat):Int)>40
    ·rw[decide_eq_true h];exact⟨_,rfl,.inr rfl⟩
    ·rw[decide_eq_false h]
     obtain⟨r,h1,h2⟩:=ih (i+1) m (by omega) (by omega)
     refine⟨r,h1,?_⟩
     rcases h2 with ⟨h2,h3⟩|h2
     ·refine .inl ⟨h2,fun v hv=>?_⟩
      rcases aeQ.1 hv with hv|hv
      ·rw[hv];omega
      ·exact h3 v hv
     ·exact .inr h2
  obtain⟨r,h1,h2⟩:=key g.Hoods.length 0 n (by omega) (by omega)
  have e:QP n g=(some r).bind fun (r5:PUnit⊕Bool)=>Sum.elim (fun (q6:PUnit)=>some true) (fun (q7:Bool)=>some q7) r5:=by
   refine(QP_eq ..).trans ?_
   rw[decide_eq_false (show¬((g.Hoods.length:Nat):Int)>30 by omega),cond_false]
   exact bs h1 rfl
  rw[e]
  rcases h2 with ⟨rfl,h3⟩|rfl
  ·exact⟨true,rfl,fun _=>⟨h25,by simpa using h3⟩⟩
  ·exact⟨false,rfl,fun h=>by cases h⟩
 ·refine⟨false,?_,fun h=>by cases h⟩
  refine(QP_eq ..).trans ?_
  rw[decide_eq_true (show ((g.Hoods.length:Nat):Int)>30 by omega)];rfl
def pq (h:Hood):Prop:=rI h.Radius/\∀s∈h.Slots,rI s
def nE (i:Int) (h:Hood):ah:=fM 271 [jy (kI ([i,h.Radius]++h.Slots))]
theorem RP (i:Int) {h:Hood} (hl:h.Slots.length<=40):(∀x∈[jy (kI ([i,h.Radius]++h.Slots))],x.length<2^28)/\dN bB [jy (kI ([i,h.Radius]++h.Slots))]<=2^16:=by
 have h1:=acD (l:=[i,h.Radius]++h.Slots)
 simp only[aaG,List.length_cons,List.length_nil] at h1
 refine⟨fun x hx=>?_,?_⟩
 ·rw[aeH.1 hx,oU];omega
 ·have h3:=acy (jy (kI ([i,h.Radius]++h.Slots)))
  rw[oU] at h3
  show (bB _).length+0<=_
  omega
theorem RQ {i:Int} {h:Hood} (hi:rI i) (hr:pq h):∀x∈[i,h.Radius]++h.Slots,rI x:=by
 intro x hx
 rcases afP.1 hx with hx|hx
 ·simp only[aeQ,List.not_mem_nil,or_false] at hx
  rcases hx with rfl|rfl
  ·exact hi
  ·exact hr.1
 ·exact hr.2 x hx
theorem El {n:Nat} {i:Int} {h:Hood} (hi:rI i) (hr:pq h) (hl:h.Slots.length<=40) (hn:2^20<n):oV n (i,h)=some (nE i h):=by
 obtain⟨h1,h2⟩:=RP i hl
 have e:([i,h.Radius]++h.Slots).length=2+h.Slots.length:=by rw[aaG];rfl
 refine(adO ..).trans ?_
 refine gR (qO (by show 2+h.Slots.length<_;omega) (by decide)) ?_
 refine bs (acE (l:=[i,h.Radius]++h.Slots) (RQ hi hr) (by omega) (by omega) (by omega)) ?_
 exact bs (Dw (ls:=[jy (kI ([i,h.Radius]++h.Slots))]) h1 (by omega) (by omega) (by show 1<n;omega) (by omega) (by show 1<2^62;decide)) rfl
theorem JC {n:Nat} {i:Int} {h:Hood} (hi:rI i) (hr:pq h) (hl:h.Slots.length<=40) (hn:2^20<n):oZ n (i,h)=some (nE i h):=by
 obtain⟨h1,h2⟩:=RP i hl
 have e:([i,h.Radius]++h.Slots).length=2+h.Slots.length:=by rw[aaG];rfl
 refine(adS ..).trans ?_
 refine gR (qO (by show 2+h.Slots.length<_;omega) (by decide)) ?_
 refine bs (acF (l:=[i,h.Radius]++h.Slots) (RQ hi hr) (by omega) (by omega) (by omega)) ?_
 exact bs (Js (ls:=[jy (kI ([i,h.Radius]++h.Slots))]) h1 (by omega) (by omega) (by show 1<n;omega) (by omega) (by show 1<2^62;decide)) rfl
def fu:Nat->List Hood->List ah
 |_,[]=>[]
 |j,h::l=>nE (j:Int) h::fu (j+1) l
theorem zY:∀(j:Nat) (l:List Hood),(fu j l).length=l.length
 |_,[]=>rfl
 |j,h::l=>congrArg (· +1) (zY (j+1) l)
theorem RU:∀(j:Nat) (l:List Hood) (k:Nat) (h:Hood),l[k]? =some h->(fu j l)[k]? =some (nE ((j+k:Nat):Int) h)
 |j,[],k,h,e=>by simp at e
 |j,x::l,0,h,e=>by simp at e;subst e;rfl
 |j,x::l,k+1,h,e=>by
  have:=RU (j+1) l k h (by simpa using e)
  rw[show j+1+k=j+(k+1) by omega] at this
  exact this
section
variable {n:Nat} {g:Graph} (hn:2^20<n) (hf:FewG g.Hoods) (hr:∀h∈g.Hoods,pq h)
include hn hf hr
theorem JD:qQ n g=some (fu 0 g.Hoods):=by
 obtain⟨hf1,hf2⟩:=hf
 have k1:∀(k j m:Nat) (a:List ah),j+k=g.Hoods.length->k<m->a.length<=j->zT n g m (a,(j:Int))=some (a++fu j (g.Hoods.drop j)):=by
  intro k
  induction k with
  |zero=>
   intro j m a hj hm ha
   obtain⟨m,rfl⟩:∃m',m=m'+1:=⟨m-1,by omega⟩
   rw[Ry,oP (by omega),aft (by omega),show fu j []=[] from rfl,aeX];rfl
  |succ k ih=>
   intro j m a hj hm ha
   obtain⟨m,rfl⟩:∃m',m=m'+1:=⟨m-1,by omega⟩
   have hlt:j<g.Hoods.length:=by omega
   have hy:g.Hoods[j]? =some g.Hoods[j]:=afb hlt
   have hg:=hr _ (afc hlt)
   have hg2:=hf2 _ (afc hlt)
   rw[afy hlt,show∀x l,fu j (x::l)=nE (j:Int) x::fu (j+1) l from fun _ _=>rfl]
   generalize g.Hoods[j]=q at hy hg hg2⊢
   rw[Ry,oN hy,oO (by omega),cond_true]
   have:=ih (j+1) m (a++[nE (j:Int) q]) (by omega) (by omega) (by rw[aaG,List.length_singleton];omega)
   rw[aeC] at this
   exact bs (lQ hy) (bs (El (by unfold rI;omega) hg hg2 hn) (gR (qO (by simp;omega) (by decide)) this))
 refine(adP ..).trans ?_
 exact bs (k1 g.Hoods.length 0 n [] (by omega) (by omega) (by simp)) (by rw[afq];rfl)
theorem RV:qR n g=some (fu 0 g.Hoods):=by
 obtain⟨hf1,hf2⟩:=hf
 have k1:∀(k j m:Nat) (a:List ah),j+k=g.Hoods.length->k<m->a.length<=j->zU n g m (a,(j:Int))=some (a++fu j (g.Hoods.drop j)):=by
  intro k
  induction k with
  |zero=>
   intro j m a hj hm ha
   obtain⟨m,rfl⟩:∃m',m=m'+1:=⟨m-1,by omega⟩
   rw[RA,oP (by omega),aft (by omega),show fu j []=[] from rfl,aeX];rfl
  |succ k ih=>
   intro j m a hj hm ha
   obtain⟨m,rfl⟩:∃m',m=m'+1:=⟨m-1,by omega⟩
   have hlt:j<g.Hoods.length:=by omega
   have hy:g.Hoods[j]? =some g.Hoods[j]:=afb hlt
   have hg:=hr _ (afc hlt)
   have hg2:=hf2 _ (afc hlt)
   rw[afy hlt,show∀x l,fu j (x::l)=nE (j:Int) x::fu (j+1) l from fun _ _=>rfl]
   generalize g.Hoods[j]=q at hy hg hg2⊢
   rw[RA,oN hy,oO (by omega),cond_true]
   have:=ih (j+1) m (a++[nE (j:Int) q]) (by omega) (by omega) (by rw[aaG,List.length_singleton];omega)
   rw[aeC] at this
   exact bs (lQ hy) (bs (JC (by unfold rI;omega) hg hg2 hn) (gR (qO (by simp;omega) (by decide)) this))
 refine(adT ..).trans ?_
 exact bs (k1 g.Hoods.length 0 n [] (by omega) (by omega) (by simp)) (by rw[afq];rfl)
theorem RX:qV n g=some (cZ n (fu 0 g.Hoods)):=by
 have:=hf.1
 refine(ad1 ..).trans ?_
 exact bs (JD hn hf hr) (bs (Ei hn (by rw[zY];omega)) rfl)
theorem aeo:vT n g=some (cZ n (fu 0 g.Hoods)):=by
 have:=hf.1
 refine(ad2 ..).trans ?_
 exact bs (RV hn hf hr) (bs (JB hn (by rw[zY];omega)) rfl)
theorem proves (i:Int):∃(p:List ah) (e:Int),vM n (g,i)=some (p,e)/\vS n (g,i)=some (⟨p,e⟩:bJ)/\p.length<=65536/\(e=0->0<=i/\i< (g.Hoods.length:Nat)/\nC n (fu 0 g.Hoods,i)=some (p,(0:Int))):=by
 have h30:=hf.1
 have hlen:=zY 0 g.Hoods
 obtain⟨p,e,h1,h2,h3,h4,h5⟩:=aei (n:=n) (l:=fu 0 g.Hoods) (i:=i) hn (by omega)
 rw[hlen] at h3 h4
 by_cases hb:i<0\/i>=(g.Hoods.length:Nat)
 ·obtain⟨rfl,rfl⟩:=h3 hb
  refine⟨[],1,?_,?_,by simp,fun h=>by cases h⟩
  ·refine(Rz ..).trans ?_
   exact bs (JD hn hf hr) (bs h1 rfl)
  ·refine(RD ..).trans ?_
   refine bT ?_ rfl
   by_cases h0:i<0
   ·rw[decide_eq_true h0];rfl
   ·rw[decide_eq_false h0,decide_eq_true (show i>=((g.Hoods.length:Nat):Int) by omega)];rfl
 ·obtain rfl:=h4 hb
  refine⟨p,0,?_,?_,h5,fun _=>⟨by omega,by omega,h1⟩⟩
  ·refine(Rz ..).trans ?_
   exact bs (JD hn hf hr) (bs h1 rfl)
  ·refine(RD ..).trans ?_
   refine bF ?_ (bs (RV hn hf hr) (bs h2 rfl))
   rw[decide_eq_false (show¬i<0 by omega),decide_eq_false (show¬i>=((g.Hoods.length:Nat):Int) by omega)];rfl
end
theorem JE (x:ah):((x.b0==x.b0)&& ((x.b1==x.b1)&& ((x.b2==x.b2)&& ((x.b3==x.b3)&& ((x.b4==x.b4)&& ((x.b5==x.b5)&& ((x.b6==x.b6)&& ((x.b7==x.b7)&& ((x.b8==x.b8)&& ((x.b9==x.b9)&& ((x.b10==x.b10)&& ((x.b11==x.b11)&& ((x.b12==x.b12)&& ((x.b13==x.b13)&& ((x.b14==x.b14)&& ((x.b15==x.b15)&& true))))))))))))))))=true:=by
 simp only[beq_self_eq_true,Bool.and_true]
theorem same_loop {n:Nat} {g:Graph} {i:Int} {p:List ah} {e:Int} (hp:p.length<=65536):∀(k j m:Nat),j+k=p.length->k<m->zW n g i (p,e) (⟨p,e⟩:bJ) m (j:Int)=some (.inl ()):=by
 intro k
 induction k with
 |zero=>
  intro j m hj hm
  obtain⟨m,rfl⟩:∃m',m=m'+1:=⟨m-1,by omega⟩
  refine(RG ..).trans ?_
  exact bF (oP (show p.length<=j by omega)) rfl
 |succ k ih=>
  intro j m hj hm
  obtain⟨m,rfl⟩:∃m',m=m'+1:=⟨m-1,by omega⟩
  have hlt:j<p.length:=by omega
  have hy:p[j]? =some p[j]:=afb hlt
  generalize p[j]=q at hy
  refine(RG ..).trans ?_
  refine bT (oN hy) (bs (lQ hy) (bs (lQ hy) ?_))
  refine bF (by rw[JE];rfl) ?_
  rw[oO (by omega)]
  exact ih (j+1) m (by omega) (by omega)
theorem aep {n:Nat} {x1:Graph} {x2:Int} {x3:Hood} {x4:ah} {x5:List ah} (hN:2^40<=n) (hr:∀h∈x1.Hoods,pq h) (hi:rI x2) (hh:pq x3):Ee n (x1,(x2,(x3,(x4,x5))))=some true:=by
 have hn:2^20<n:=by omega
 obtain⟨b,hb,hf⟩:=aen (n:=n) (g:=x1) (by omega)
 refine(ad6 ..).trans ?_
 refine bs hb ?_
 by_cases hc:b=true/\x3.Slots.length<=40/\x5.length<=30
 ·obtain⟨rfl,h40,h30⟩:=hc
  have hf:=hf rfl
  have hlen:=zY 0 x1.Hoods
  obtain⟨p,e,p1,p2,p3,p4⟩:=proves hn hf hr x2
  obtain⟨c,c1,c2⟩:=aea hN (leaf:=nE x2 x3) (root:=x4) (i:=x2) (n:=(x1.Hoods.length:Nat)) (l:=x5) (by omega)
  refine bF ?_ ?_
  ·rw[decide_eq_false (show¬((x3.Slots.length:Nat):Int)>40 by omega),decide_eq_false (show¬((x5.length:Nat):Int)>30 by omega)];rfl
  refine bs p1 (bs p2 (bs (RX hn hf hr) (bs (aeo hn hf hr) ?_)))
  refine bT (by rw[JE];rfl) ?_
  refine bs (El hi hh h40 hn) (bs (JC hi hh h40 hn) ?_)
  refine bT (by rw[JE];rfl) ?_
  refine bT (by simp) ?_
  refine bT (by simp) ?_
  have v1:o9 n (x4,(((x1.Hoods.length:Nat):Int),(x2,(x3,x5))))=some c:=by
   refine(RF ..).trans ?_
   exact bs (El hi hh h40 hn) (bs c1 rfl)
  have v2:vW n (x4,(((x1.Hoods.length:Nat):Int),(x2,(x3,x5))))=some c:=by
   refine(ad5 ..).trans ?_
   exact bs (JC hi hh h40 hn) (bs c2 rfl)
  refine bs v1 (bs v2 ?_)
  refine bF (by cases c<;>rfl) ?_
  refine bs (same_loop p3 p.length 0 n (by omega) (by omega)) ?_
  refine bs (QR_eq ..) ?_
  refine bT rfl ?_
  by_cases he:e=0
  ·obtain⟨q1,q2,q3⟩:=p4 he
   subst he
   refine bT (by simp) ?_
   refine bs (RX hn hf hr) ?_
   obtain⟨k,rfl⟩:∃k:Nat,x2=(k:Int):=⟨x2.toNat,by omega⟩
   have hk:k<x1.Hoods.length:=by omega
   have hy:x1.Hoods[k]? =some x1.Hoods[k]:=afb hk
   have hg:=hr _ (afc hk)
   have hg2:=hf.2 _ (afc hk)
   generalize x1.Hoods[k]=q at hy hg hg2
   refine bs (lQ hy) ?_
   have hx:=RU 0 x1.Hoods k q hy
   rw[ae7] at hx
   have hchk:=aem hn (l:=fu 0 x1.Hoods) (i:=k) (by have:=hf.1;omega) hx p3 q3
   rw[hlen] at hchk
   have v3:o9 n (cZ n (fu 0 x1.Hoods),(((x1.Hoods.length:Nat):Int),((k:Int),(q,p))))=some true:=by
    refine(RF ..).trans ?_
    exact bs (El hi hg hg2 hn) (bs hchk rfl)
   exact bs v3 rfl
  ·refine bF (by simpa using he) rfl
 ·refine bT ?_ (bs (QR_eq ..) rfl)
  cases b with
  |false=>rfl
  |true=>
   by_cases h40:x3.Slots.length<=40
   ·have h30:¬x5.length<=30:=fun h=>hc ⟨rfl,h40,h⟩
    rw[decide_eq_false (show¬((x3.Slots.length:Nat):Int)>40 by omega),decide_eq_true (show ((x5.length:Nat):Int)>30 by omega)];rfl
   ·rw[decide_eq_true (show ((x3.Slots.length:Nat):Int)>40 by omega)];rfl
end Sh
end
section
namespace Go.Proofs.YtabmooekodficaaGreatDoor.prove
open Go Go.ChangeShapes Go.WideShapes Go.ChangeAt Go.RowKit Aq Sh
set_option maxRecDepth 100000
theorem JF {n:Int} {k:Nat} (h:vsr (V.int .i64 n)<=k) (hk:k<2^62):rI n:=by
 have h1:1+badI .i64 n<=k:=h
 have h2:=ZO (k:=.i64) (n:=n) (by omega)
 have e0:IntKind.min .i64= -(2^63):=by decide
 have e1:IntKind.max .i64=2^63-1:=by decide
 rw[e0,e1] at h2
 unfold rI
 omega
theorem RY {l:List V} {v:V} (h:v∈l):vsr v<=vsrL l:=by
 induction l with
 |nil=>cases h
 |cons x l ih=>
  rcases aeQ.1 h with rfl|h
  ·show vsr v<=vsr v+vsrL l;omega
  ·have:=ih h
   show vsr v<=vsr x+vsrL l;omega
theorem RZ {h:Hood} {k:Nat} (hh:vsr (Hood.v h)<=k) (hk:k<2^62):pq h:=by
 have e:vsr (Hood.v h)=vsr (V.int .i64 h.Radius)+((vsrL (h.Slots.map iv)+1)+0):=rfl
 refine⟨JF (k:=k) (by omega) hk,fun s hs=>?_⟩
 have:=RY (List.mem_map_of_mem (f:=iv) hs)
 exact JF (k:=k) (by show vsr (iv s)<=k;omega) hk
theorem aer {g:Graph} {k:Nat} (hg:vsr (Graph.v g)<=k) (hk:k<2^62):∀h∈g.Hoods,pq h:=by
 have e:vsr (Graph.v g)=(vsrL (g.Hoods.map Hood.v)+1)+0:=rfl
 intro h hh
 have:=RY (List.mem_map_of_mem (f:=Hood.v) hh)
 exact RZ (k:=k) (by omega) hk
end Go.Proofs.YtabmooekodficaaGreatDoor.prove
end
