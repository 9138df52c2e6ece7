/- Part of the proof of a law. -/
import Derived.IntWalk
import Derived.Test.YtdcnajadcbedkaaGreatDoorS1212
set_option linter.all false
section
open Go Aq
namespace So
variable {α β:Type}
theorem gT {c:Bool} {o r:Option β} (h:c=true) (k:o=r):(bif c then o else none)=r:=by rw[h];exact k
theorem iT {c:Bool} {a b r:β} (h:c=true) (k:a=r):(bif c then a else b)=r:=by rw[h];exact k
theorem iF {c:Bool} {a b r:β} (h:c=false) (k:b=r):(bif c then a else b)=r:=by rw[h];exact k
theorem bd {γ:Type} {o:Option α} {a:α} {f:α->Option γ} {r:Option γ} (h:o=some a) (k:f a=r):o.bind f=r:=by rw[h];exact k
theorem nX (P T:List α) (x:α) {i:Int} (h:i=P.length):aB (P++x::T) i=some x:=by
 subst h
 unfold aB
 rw[if_pos ⟨by omega,by simp only[iP,List.length_cons];omega⟩]
 simp
theorem set_mid (P T:List α) (x y:α) {i:Int} (h:i=P.length):aW (P++x::T) i y=P++y::T:=by
 subst h
 unfold aW
 simp
theorem oV {l:List α} {i:Int} (h0:0<=i) (h1:i<l.length):decide (0<=i/\i< ((l.length:Nat):Int))=true:=decide_eq_true ⟨h0,h1⟩
theorem wr {i:Int} (h0: -(2^62)<=i) (h:i<=2^62):IntKind.wrap .i64 i=i:=by rw[IntKind.wrap_i64];omega
def J6 (key:α->Int) (cmp:α×α->Option Int):Prop:=∀a b,∃r,cmp (a,b)=some r/\(r<0↔key a<key b)
def eY (key:α->Int) (l:List α):Prop:=l.Pairwise fun a b=>key a<=key b
def dR (key:α->Int) (s t:List α):Prop:=∀k:Int,s.filter (fun a=>key a==k)=t.filter (fun a=>key a==k)
def qY (key:α->Int) (x:α):List α->List α
 | []=>[x]
 |y::r=>if key x<key y then y::qY key x r else x::y::r
def oW (key:α->Int) (x:α) (S:List α):List α:=(qY key x S.reverse).reverse
theorem apT (key:α->Int) (x y:α) (S:List α):oW key x (S++[y])=if key x<key y then oW key x S++[y] else S++[y]++[x]:=by
 unfold oW
 rw[List.reverse_append]
 show (if key x<key y then y::qY key x S.reverse else x::y::S.reverse).reverse=_
 split
 ·rw[List.reverse_cons]
 ·rw[List.reverse_cons,List.reverse_cons,List.reverse_reverse]
theorem ady (key:α->Int) (x:α):∀r:List α,(qY key x r).length=r.length+1
 | []=>rfl
 |y::r=>by
  unfold qY
  split
  ·rw[List.length_cons,ady key x r,List.length_cons]
  ·rfl
theorem PW (key:α->Int) (x:α) (S:List α):(oW key x S).length=S.length+1:=by unfold oW;rw[List.length_reverse,ady,List.length_reverse]
theorem adz (key:α->Int) (x z:α):∀r:List α,z∈qY key x r↔z=x\/z∈r
 | []=>by simp[qY]
 |y::r=>by
  unfold qY
  split
  ·rw[adf,adz key x z r,adf]
   constructor
   ·rintro (h|h|h)
    ·exact .inr (.inl h)
    ·exact .inl h
    ·exact .inr (.inr h)
   ·rintro (h|h|h)
    ·exact .inr (.inl h)
    ·exact .inl h
    ·exact .inr (.inr h)
  ·rw[adf]
theorem adA (key:α->Int) (x:α):∀r:List α,r.Pairwise (fun a b=>key b<=key a)->(qY key x r).Pairwise (fun a b=>key b<=key a)
 | [],_=>by simp[qY]
 |y::r,h=>by
  rw[List.pairwise_cons] at h
  unfold qY
  split
  ·rename_i hlt
   rw[List.pairwise_cons]
   refine⟨fun z hz=> ?_,adA key x r h.2⟩
   rcases (adz key x z r).1 hz with rfl|hz
   ·omega
   ·exact h.1 z hz
  ·rename_i hlt
   rw[List.pairwise_cons,List.pairwise_cons]
   refine⟨fun z hz=> ?_,h⟩
   rcases adf.1 hz with rfl|hz
   ·omega
   ·have:=h.1 z hz;omega
theorem adB (key:α->Int) (x:α) (k:Int):∀r:List α,(qY key x r).filter (fun a=>key a==k)=(x::r).filter (fun a=>key a==k)
 | []=>rfl
 |y::r=>by
  unfold qY
  split
  ·rename_i hlt
   rw[List.filter_cons,adB key x k r]
   by_cases hy:key y=k
   ·have hx:¬key x=k:=by omega
    simp[List.filter_cons,hx,hy]
   ·simp[List.filter_cons,hy]
  ·rfl
theorem apU (key:α->Int) (x:α) {S:List α} (h:eY key S):eY key (oW key x S):=by
 unfold eY oW at*
 rw[List.pairwise_reverse]
 exact adA key x _ (by rw[List.pairwise_reverse];exact h)
theorem apV (key:α->Int) (x:α) (S:List α):dR key (oW key x S) (S++[x]):=by
 intro k
 unfold oW
 rw[List.filter_reverse,adB,<-List.filter_reverse,List.reverse_cons,List.reverse_reverse]
def u6 (key:α->Int):List α->List α->List α
 |S,[]=>S
 |S,x::U=>u6 key (oW key x S) U
theorem adC (key:α->Int):∀(U S:List α),eY key S->eY key (u6 key S U)/\dR key (u6 key S U) (S++U)/\(u6 key S U).length=S.length+U.length
 | [],S,h=>⟨h,by rw[aeX];exact fun _=>rfl,rfl⟩
 |x::U,S,h=>by
  obtain⟨h1,h2,h3⟩:=adC key U (oW key x S) (apU key x h)
  refine⟨h1,fun k=> ?_, ?_⟩
  ·rw[show u6 key S (x::U)=u6 key (oW key x S) U from rfl,h2 k,ama,apV key x S k,<-ama,acF];rfl
  ·rw[show u6 key S (x::U)=u6 key (oW key x S) U from rfl,h3,PW,List.length_cons];omega
section
variable {key:α->Int} {cmp:α×α->Option Int} (hc:J6 key cmp) {L4:Int->Int->Int->Nat->Int×List α->Option (PUnit×List α)}
 (h4:∀(x1 x2 x4:Int) (m:Nat) (x6:Int) (x7:List α),L4 x1 x2 x4 (m+1) (x6,x7)=
   bif decide (x6>x1) then
    bif decide (0<=x6/\x6< ((x7.length:Nat):Int)) then
     (aB x7 x6).bind fun (r8:α)=>
     bif decide (0<=(Go.IntKind.wrap .i64 (x6-((1:Int))))/\(Go.IntKind.wrap .i64 (x6-((1:Int))))< ((x7.length:Nat):Int)) then
      (aB x7 (Go.IntKind.wrap .i64 (x6-((1:Int))))).bind fun (r9:α)=>
      (cmp (r8,r9)).bind fun (bW:Int)=>
      bif decide (bW< ((0:Int))) then
       bif decide (0<=(Go.IntKind.wrap .i64 (x6-((1:Int))))/\(Go.IntKind.wrap .i64 (x6-((1:Int))))< ((x7.length:Nat):Int)) then
        (aB x7 (Go.IntKind.wrap .i64 (x6-((1:Int))))).bind fun (dw:α)=>
        bif decide (0<=x6/\x6< ((x7.length:Nat):Int)) then
         (aB x7 x6).bind fun (gM:α)=>
         bif decide (0<=x6/\x6< ((x7.length:Nat):Int)) then
          (aB x7 x6).bind fun (_:α)=>
          bif decide (0<=(Go.IntKind.wrap .i64 (x6-((1:Int))))/\(Go.IntKind.wrap .i64 (x6-((1:Int))))< (((aW x7 x6 dw).length:Nat):Int)) then
           (aB (aW x7 x6 dw) (Go.IntKind.wrap .i64 (x6-((1:Int))))).bind fun (_:α)=>
           L4 x1 x2 x4 m ((Go.IntKind.wrap .i64 (x6-((1:Int))),aW (aW x7 x6 dw) (Go.IntKind.wrap .i64 (x6-((1:Int)))) gM))
          else
           none
         else
          none
        else
         none
       else
        none
      else
       some (((),x7))
     else
      none
    else
     none
   else
    some (((),x7)))
include hc h4
theorem apW {A:List α} {x:α} {x2 x4:Int}:∀(k:Nat) (S:List α),S.length=k->∀(T:List α) (m:Nat),(A++(S++x::T)).length<2^62->k<m->
 L4 A.length x2 x4 m (((A.length+S.length:Nat):Int),A++(S++x::T))=some ((),A++(oW key x S++T)):=by
 intro k
 induction k with
 |zero=>
  intro S hS T m hb hm
  obtain rfl:=adK hS
  obtain⟨m,rfl⟩:∃m',m=m'+1:=⟨m-1,by omega⟩
  rw[h4]
  exact iF (by simp) rfl
 |succ k ih=>
  intro S hS T m hb hm
  obtain⟨m,rfl⟩:∃m',m=m'+1:=⟨m-1,by omega⟩
  obtain⟨S,y,rfl⟩:∃S' y,S=S'++[y]:=by
   have hne:S≠[]:=by rintro rfl;simp at hS
   exact⟨S.dropLast,S.getLast hne,(List.dropLast_concat_getLast hne).symm⟩
  have hS':S.length=k:=by simpa using hS
  have hl:A++((S++[y])++x::T)=(A++S)++y::x::T:=by simp
  have hl2:A++((S++[y])++x::T)=(A++S++[y])++x::T:=by simp
  have hlen:((A.length+(S++[y]).length:Nat):Int)=((A++S++[y]).length:Nat):=by simp[agh]
  have hb':(A++S).length+1+(x::T).length<2^62:=by rw[hl] at hb;simp only[iP,List.length_cons] at hb⊢;omega
  have hw:IntKind.wrap .i64 (((A.length+(S++[y]).length:Nat):Int)-(1:Int))=((A++S).length:Nat):=by
   rw[wr (by omega) (by simp only[iP,List.length_cons,List.length_nil] at hb'⊢;omega)]
   simp only[iP,List.length_cons,List.length_nil];omega
  have d1:decide ((0:Int)<=((A.length+(S++[y]).length:Nat):Int)/\((A.length+(S++[y]).length:Nat):Int)< (((A++((S++[y])++x::T)).length:Nat):Int))=true:=oV (by omega) (by simp only[iP,List.length_cons,List.length_nil];omega)
  have d2:decide ((0:Int)<=(((A++S).length:Nat):Int)/\(((A++S).length:Nat):Int)< (((A++((S++[y])++x::T)).length:Nat):Int))=true:=oV (by omega) (by simp only[iP,List.length_cons,List.length_nil];omega)
  have i1:aB (A++((S++[y])++x::T)) ((A.length+(S++[y]).length:Nat):Int)=some x:=by rw[hl2];exact nX _ _ _ hlen
  have i2:aB (A++((S++[y])++x::T)) (((A++S).length:Nat):Int)=some y:=by rw[hl];exact nX _ _ _ rfl
  have s1:aW (A++((S++[y])++x::T)) ((A.length+(S++[y]).length:Nat):Int) y=(A++S)++y::y::T:=by
   rw[hl2,set_mid _ _ _ _ hlen];simp
  obtain⟨r,hr,tY⟩:=hc x y
  rw[h4,hw]
  refine iT (decide_eq_true (by simp;omega)) (gT d1 (bd i1 (gT d2 (bd i2 (bd hr ?_)))))
  rw[apT]
  by_cases hk:key x<key y
  ·rw[if_pos hk]
   refine iT (decide_eq_true (tY.2 hk)) (gT d2 (bd i2 (gT d1 (bd i1 (gT d1 (bd i1 ?_))))))
   rw[s1]
   refine gT (oV (by omega) (by simp;omega)) (bd (nX _ _ _ rfl) ?_)
   rw[set_mid _ _ _ _ rfl]
   have:=ih S hS' (y::T) m (by simp only[iP,List.length_cons] at hb'⊢;omega) (by omega)
   rw[show ((A.length+S.length:Nat):Int)=(((A++S).length:Nat):Int) by rw[iP]] at this
   rw[acF,this]
   simp
  ·rw[if_neg hk]
   refine iF (decide_eq_false fun h=>hk (tY.1 h)) ?_
   simp
variable {n:Nat} {L1:Int->Int->Nat->Int×List α->Option (PUnit×List α)}
 (h1:∀(x1 x2:Int) (m:Nat) (x4:Int) (x5:List α),L1 x1 x2 (m+1) (x4,x5)=
   bif decide (x4<x2) then
    (L4 x1 x2 x4 n ((x4,x5))).bind fun (jD:PUnit×List α)=>
    L1 x1 x2 m ((Go.IntKind.wrap .i64 (x4+((1:Int))),jD.2))
   else
    some (((),x5)))
include h1
theorem apX {A B:List α}:∀(U S:List α) (m:Nat),(A++(S++(U++B))).length<2^62->U.length<m->(S++U).length<n->
 L1 A.length ((A.length+S.length+U.length:Nat):Int) m (((A.length+S.length:Nat):Int),A++(S++(U++B)))=some ((),A++(u6 key S U++B)):=by
 intro U
 induction U with
 |nil=>
  intro S m hb hm hn
  obtain⟨m,rfl⟩:∃m',m=m'+1:=⟨m-1,by omega⟩
  rw[h1]
  exact iF (by simp) rfl
 |cons x U ih=>
  intro S m hb hm hn
  obtain⟨m,rfl⟩:∃m',m=m'+1:=⟨m-1,by omega⟩
  rw[h1]
  refine iT (decide_eq_true (by simp only[List.length_cons];omega)) (bd (apW hc h4 S.length S rfl (U++B) n hb (by simp only[iP,List.length_cons] at hn;omega)) ?_)
  have:=ih (oW key x S) m (by simp only[iP,List.length_cons,PW] at hb⊢;omega) (by simp only[List.length_cons] at hm;omega) (by simp only[iP,List.length_cons,PW] at hn⊢;omega)
  rw[PW] at this
  rw[show ((A.length+S.length+(x::U).length:Nat):Int)=((A.length+(S.length+1)+U.length:Nat):Int) by rw[List.length_cons];omega,
   wr (by omega) (by simp only[iP,List.length_cons] at hb;omega),show ((A.length+S.length:Nat):Int)+(1:Int)=((A.length+(S.length+1):Nat):Int) by omega]
  exact this
theorem apY {A W B:List α} (hb:(A++(W++B)).length<2^61) (hn:W.length+1<n):∃W',eY key W'/\dR key W' W/\W'.length=W.length/\
 L1 A.length ((A.length+W.length:Nat):Int) n (IntKind.wrap .i64 ((A.length:Nat)+(1:Int)),A++(W++B))=some ((),A++(W'++B)):=by
 have hA:A.length<2^61:=by simp only[iP] at hb;omega
 cases W with
 |nil=>
  obtain⟨m,rfl⟩:∃m',n=m'+1:=⟨n-1,by omega⟩
  refine⟨[],List.Pairwise.nil,fun _=>rfl,rfl, ?_⟩
  rw[h1,wr (by omega) (by omega)]
  exact iF (decide_eq_false (by simp only[List.length_nil];omega)) rfl
 |cons x U=>
  obtain⟨g1,g2,g3⟩:=adC key U [x] (List.pairwise_singleton _ _)
  refine⟨u6 key [x] U,g1,g2,by rw[g3,List.length_cons,List.length_cons,List.length_nil];omega, ?_⟩
  have:=apX hc h4 h1 (A:=A) (B:=B) U [x] n (by simp only[iP,List.length_cons,List.length_nil] at hb⊢;omega) (by simp only[List.length_cons] at hn;omega) (by simp only[iP,List.length_cons,List.length_nil] at hn⊢;omega)
  rw[wr (by omega) (by omega)]
  rw[show ((A.length+(x::U).length:Nat):Int)=((A.length+[x].length+U.length:Nat):Int) by simp only[List.length_cons,List.length_nil];omega]
  exact this
end
end So
end
section
open Go Aq
namespace So
variable {α:Type}
section
variable {L1:Int->Int->Int->Nat->Int×List α->Option (PUnit×List α)}
 (h1:∀(x1:Int) (x2:Int) (x3:Int) (m:Nat) (x5:Int) (x6:List α),L1 x1 x2 x3 (m+1) (x5,x6)=
   bif decide (x5<x3) then
    bif decide (0<=(Go.IntKind.wrap .i64 (x2+x5))/\(Go.IntKind.wrap .i64 (x2+x5))< ((x6.length:Nat):Int)) then
     (aB x6 (Go.IntKind.wrap .i64 (x2+x5))).bind fun (r7:α)=>
     bif decide (0<=(Go.IntKind.wrap .i64 (x1+x5))/\(Go.IntKind.wrap .i64 (x1+x5))< ((x6.length:Nat):Int)) then
      (aB x6 (Go.IntKind.wrap .i64 (x1+x5))).bind fun (r8:α)=>
      bif decide (0<=(Go.IntKind.wrap .i64 (x1+x5))/\(Go.IntKind.wrap .i64 (x1+x5))< ((x6.length:Nat):Int)) then
       (aB x6 (Go.IntKind.wrap .i64 (x1+x5))).bind fun (r9:α)=>
       bif decide (0<=(Go.IntKind.wrap .i64 (x2+x5))/\(Go.IntKind.wrap .i64 (x2+x5))< (((aW x6 (Go.IntKind.wrap .i64 (x1+x5)) r7).length:Nat):Int)) then
        (aB (aW x6 (Go.IntKind.wrap .i64 (x1+x5)) r7) (Go.IntKind.wrap .i64 (x2+x5))).bind fun (bW:α)=>
        L1 x1 x2 x3 m ((Go.IntKind.wrap .i64 (x5+((1:Int))),aW (aW x6 (Go.IntKind.wrap .i64 (x1+x5)) r7) (Go.IntKind.wrap .i64 (x2+x5)) r8))
       else
        none
      else
       none
     else
      none
    else
     none
   else
    some (((),x6)))
include h1
theorem adD {A M B:List α}:∀(X2 Y2 Y1 X1:List α) (m:Nat),X2.length=Y2.length->Y1.length=X1.length->(A++(Y1++X2)++M++(X1++Y2)++B).length<2^61->X2.length<m->
 L1 A.length ((A.length+(Y1.length+X2.length)+M.length:Nat):Int) ((Y1.length+X2.length:Nat):Int) m ((Y1.length:Nat),A++(Y1++X2)++M++(X1++Y2)++B)=some ((),A++(Y1++Y2)++M++(X1++X2)++B)
 | [],[],Y1,X1,m,_,_,_,hm=>by
   obtain⟨m,rfl⟩:∃m',m=m'+1:=⟨m-1,by omega⟩
   rw[h1]
   exact iF (decide_eq_false (by simp only[List.length_nil];omega)) rfl
 |x::X2,y::Y2,Y1,X1,m,h2,h3,hb,hm=>by
  obtain⟨m,rfl⟩:∃m',m=m'+1:=⟨m-1,by omega⟩
  simp only[iP,List.length_cons] at hb h2 hm
  rw[h1]
  have ea:IntKind.wrap .i64 ((A.length:Int)+(Y1.length:Int))=((A++Y1).length:Nat):=by rw[wr (by omega) (by omega)];simp
  have eb:IntKind.wrap .i64 (((A.length+(Y1.length+(x::X2).length)+M.length:Nat):Int)+(Y1.length:Int))=((A++(Y1++x::X2)++M++X1).length:Nat):=by
   rw[wr (by omega) (by simp only[List.length_cons];omega)];simp only[iP,List.length_cons];omega
  have el:A++(Y1++x::X2)++M++(X1++y::Y2)++B=(A++Y1)++x::(X2++M++X1++y::(Y2++B)):=by simp
  have er:A++(Y1++x::X2)++M++(X1++y::Y2)++B=(A++(Y1++x::X2)++M++X1)++y::(Y2++B):=by simp
  have ia:aB (A++(Y1++x::X2)++M++(X1++y::Y2)++B) (((A++Y1).length:Nat):Int)=some x:=by rw[el];exact nX _ _ _ rfl
  have ib:aB (A++(Y1++x::X2)++M++(X1++y::Y2)++B) (((A++(Y1++x::X2)++M++X1).length:Nat):Int)=some y:=by rw[er];exact nX _ _ _ rfl
  have sa:aW (A++(Y1++x::X2)++M++(X1++y::Y2)++B) (((A++Y1).length:Nat):Int) y=(A++(Y1++y::X2)++M++X1)++y::(Y2++B):=by
   rw[el,set_mid _ _ _ _ rfl];simp
  have eb2:(((A++(Y1++x::X2)++M++X1).length:Nat):Int)=(((A++(Y1++y::X2)++M++X1).length:Nat):Int):=by simp
  have d1:decide ((0:Int)<=(((A++Y1).length:Nat):Int)/\(((A++Y1).length:Nat):Int)< (((A++(Y1++x::X2)++M++(X1++y::Y2)++B).length:Nat):Int))=true:=oV (by omega) (by simp only[iP,List.length_cons];omega)
  have d2:decide ((0:Int)<=(((A++(Y1++x::X2)++M++X1).length:Nat):Int)/\(((A++(Y1++x::X2)++M++X1).length:Nat):Int)< (((A++(Y1++x::X2)++M++(X1++y::Y2)++B).length:Nat):Int))=true:=oV (by omega) (by simp only[iP,List.length_cons];omega)
  refine iT (decide_eq_true (by simp only[List.length_cons];omega)) ?_
  rw[ea,eb]
  refine gT d2 (bd ib (gT d1 (bd ia (gT d1 (bd ia ?_)))))
  rw[sa,eb2]
  refine gT (oV (by omega) (by simp only[iP,List.length_cons];omega)) (bd (nX _ _ _ rfl) ?_)
  rw[set_mid _ _ _ _ rfl]
  have:=adD (A:=A) (M:=M) (B:=B) X2 Y2 (Y1++[y]) (X1++[x]) m (by omega) (by simp[h3]) (by simp only[iP,List.length_cons,List.length_nil];omega) (by omega)
  rw[wr (by omega) (by omega)]
  simp only[iP,List.length_cons,List.length_nil,acF,List.cons_append,List.nil_append] at this⊢
  rw[show ((A.length+(Y1.length+(X2.length+1))+M.length:Nat):Int)=((A.length+(Y1.length+(0+1)+X2.length)+M.length:Nat):Int) by omega,show ((Y1.length+(X2.length+1):Nat):Int)=((Y1.length+(0+1)+X2.length:Nat):Int) by omega]
  exact this
end
section
variable {n:Nat} {sw:Unit×Int×Int×Int×(Unit×Unit)->List α->Option (PUnit×List α)}
 (hs:∀(A X M Y B:List α),X.length=Y.length->(A++X++M++Y++B).length<2^61->X.length<n->sw ((),(A.length:Int),((A.length+X.length+M.length:Nat):Int),((X.length:Nat):Int),((),())) (A++X++M++Y++B)=some ((),A++Y++M++X++B))
 {L2:Int->Nat->(Int×Int)×List α->Option (Int×List α)}
 (h2:∀(x2:Int) (m:Nat) (x5:Int) (x6:Int) (x7:List α),L2 x2 (m+1) ((x5,x6),x7)=
   bif x5 !=x6 then
    bif decide (x5>x6) then
     (sw (((),(Go.IntKind.wrap .i64 (x2-x5),(x2,(x6,((),())))))) x7).bind fun (r8:PUnit×List α)=>
     L2 x2 m (((Go.IntKind.wrap .i64 (x5-x6),x6),r8.2))
    else
     (sw (((),(Go.IntKind.wrap .i64 (x2-x5),(Go.IntKind.wrap .i64 ((Go.IntKind.wrap .i64 (x2+x6))-x5),(x5,((),())))))) x7).bind fun (r9:PUnit×List α)=>
     L2 x2 m (((x5,Go.IntKind.wrap .i64 (x6-x5)),r9.2))
   else
    some ((x5,x7)))
include hs h2
theorem ap0 {A B:List α} {m0:Int}:∀(k:Nat) (P X Y Q:List α) (m:Nat),X.length+Y.length=k->0<X.length->0<Y.length->m0=(A.length+P.length+X.length:Nat)->(A++(P++X++Y++Q)++B).length<2^61->k<m->k<n->
 ∃(P' X' Y' Q':List α),L2 m0 m (((X.length:Int),(Y.length:Int)),A++(P++X++Y++Q)++B)=some (((X'.length:Nat):Int),A++(P'++X'++Y'++Q')++B)/\X'.length=Y'.length/\m0=(A.length+P'.length+X'.length:Nat)/\P'++Y'++X'++Q'=P++Y++X++Q/\X'.length<=k:=by
 intro k
 induction k using Nat.strongRecOn with
 |_ k ih=>
  intro P X Y Q m hk hx hy hm0 hb hm hn
  obtain⟨m,rfl⟩:∃m',m=m'+1:=⟨m-1,by omega⟩
  simp only[iP] at hb
  rw[h2]
  by_cases e:X.length=Y.length
  ·refine⟨P,X,Y,Q,iF (by simp[e]) rfl,e,hm0,rfl,by omega⟩
  ·rcases Nat.lt_or_gt_of_ne e with hlt|hgt
   ·
    have hY:=(aga (Y.length-X.length) Y).symm
    generalize hY1:Y.take (Y.length-X.length)=Y1 at hY
    generalize hY2:Y.drop (Y.length-X.length)=Y2 at hY
    have l1:Y1.length=Y.length-X.length:=by rw[<-hY1,ads];omega
    have l2:Y2.length=X.length:=by rw[<-hY2,aft];omega
    have sp:=hs (A++P) X Y1 Y2 (Q++B) l2.symm (by simp only[iP];omega) (by omega)
    obtain⟨P',X',Y',Q',g1,g2,g3,g4,g5⟩:=ih (Y2.length+Y1.length) (by omega) P Y2 Y1 (X++Q) m rfl (by omega) (by omega) (by omega) (by simp only[iP];omega) (by omega) (by omega)
    refine⟨P',X',Y',Q',iT (by simp[e];omega) (iF (decide_eq_false (by omega)) (bd (a:=((),A++P++Y2++Y1++X++(Q++B))) ?_ ?_)),g2,g3, ?_,by omega⟩
    ·rw[wr (i:=m0-(X.length:Int)) (by omega) (by omega),wr (i:=m0+(Y.length:Int)) (by omega) (by omega),wr (i:=m0+(Y.length:Int)-(X.length:Int)) (by omega) (by omega),
      show m0-(X.length:Int)=((A++P).length:Nat) by rw[hm0];simp only[iP];omega,show m0+(Y.length:Int)-(X.length:Int)=(((A++P).length+X.length+Y1.length:Nat):Int) by rw[hm0];simp only[iP];omega]
     rw[show A++(P++X++Y++Q)++B=A++P++X++Y1++Y2++(Q++B) by rw[hY];simp]
     exact sp
    ·rw[wr (by omega) (by omega),show (Y.length:Int)-(X.length:Int)=((Y1.length:Nat):Int) by omega,<-l2]
     rw[<-g1];simp
    ·rw[g4,hY];simp
   ·
    have hX:=(aga Y.length X).symm
    generalize hX1:X.take Y.length=X1 at hX
    generalize hX2:X.drop Y.length=X2 at hX
    have l1:X1.length=Y.length:=by rw[<-hX1,ads];omega
    have l2:X2.length=X.length-Y.length:=by rw[<-hX2,aft]
    have sp:=hs (A++P) X1 X2 Y (Q++B) l1 (by simp only[iP];omega) (by omega)
    obtain⟨P',X',Y',Q',g1,g2,g3,g4,g5⟩:=ih (X2.length+X1.length) (by omega) (P++Y) X2 X1 Q m rfl (by omega) (by omega) (by rw[hm0];simp only[iP];omega) (by simp only[iP];omega) (by omega) (by omega)
    refine⟨P',X',Y',Q',iT (by simp[e];omega) (iT (decide_eq_true (by omega)) (bd (a:=((),A++P++Y++X2++X1++(Q++B))) ?_ ?_)),g2,g3, ?_,by omega⟩
    ·rw[wr (i:=m0-(X.length:Int)) (by omega) (by omega),
      show m0-(X.length:Int)=((A++P).length:Nat) by rw[hm0];simp only[iP];omega,show m0=(((A++P).length+X1.length+X2.length:Nat):Int) by rw[hm0];simp only[iP];omega,<-l1]
     rw[show A++(P++X++Y++Q)++B=A++P++X1++X2++Y++(Q++B) by rw[hX];simp]
     exact sp
    ·rw[wr (by omega) (by omega),show (X.length:Int)-(Y.length:Int)=((X2.length:Nat):Int) by omega,<-l1]
     rw[<-g1];simp
    ·rw[g4,hX];simp
theorem ap2 {A U V B:List α} (hu:0<U.length) (hv:0<V.length) (hb:(A++(U++V)++B).length<2^61) (hn:U.length+V.length<n):
 ((L2 ((A.length+U.length:Nat):Int) n (((U.length:Int),(V.length:Int)),A++(U++V)++B)).bind fun (bW:Int×List α)=>
   (sw (((),(Go.IntKind.wrap .i64 (((A.length+U.length:Nat):Int)-bW.1),(((A.length+U.length:Nat):Int),(bW.1,((),())))))) bW.2).bind fun (dw:PUnit×List α)=>some (((),dw.2):PUnit×List α))=some ((),A++(V++U)++B):=by
 obtain⟨P',X',Y',Q',g1,g2,g3,g4,g5⟩:=ap0 hs h2 (A:=A) (B:=B) (m0:=((A.length+U.length:Nat):Int)) _ [] U V [] n rfl hu hv (by simp) (by simpa using hb) hn hn
 have hl:=congrArg List.length g4
 simp only[iP,List.length_nil,ae5,Nat.add_zero] at hl hb
 refine bd (a:=(((X'.length:Nat):Int),A++(P'++X'++Y'++Q')++B)) (by rw[<-g1];simp) ?_
 have sp:=hs (A++P') X' [] Y' (Q'++B) g2 (by simp only[iP,List.length_nil];omega) (by omega)
 rw[wr (by omega) (by omega)]
 refine bd (a:=((),A++P'++Y'++[]++X'++(Q'++B))) ?_ ?_
 ·rw[show ((A.length+U.length:Nat):Int)-((X'.length:Nat):Int)=((A++P').length:Nat) by rw[g3];simp only[iP];omega,show ((A.length+U.length:Nat):Int)=(((A++P').length+X'.length+([]:List α).length:Nat):Int) by rw[g3];simp only[iP,List.length_nil];omega]
  rw[show A++(P'++X'++Y'++Q')++B=A++P'++X'++[]++Y'++(Q'++B) by simp]
  exact sp
 ·have:A++P'++Y'++[]++X'++(Q'++B)=A++(P'++Y'++X'++Q')++B:=by simp
  rw[this,g4];simp
end
end So
end
section
open Go Aq
namespace So
variable {α:Type}
theorem ap3 {a:Int} (h0:0<=a) (h:a<2^62):IntKind.wrap .i64 (aD IntKind.u64 (IntKind.wrap .u64 (IntKind.wrap .i64 a)) (1:Int))=a/2:=by
 rw[show IntKind.wrap .i64 a=a from wr (by omega) (by omega),IntKind.wrap_u64]
 have e:aD IntKind.u64 (a% 18446744073709551616) 1=(a% 18446744073709551616).fdiv (2^1):=rfl
 rw[e,Int.fdiv_eq_ediv_of_nonneg _ (by omega)]
 rw[wr (by omega) (by omega)]
 omega
theorem bsearch {L:Nat->Int×Int->Option Int} (P:Nat->Prop) (lo hi:Nat) (hstep:∀(m i j:Nat),lo<=i->i<j->j<=hi->(P ((i+j)/2)->L (m+1) ((i:Int),(j:Int))=L m ((((i+j)/2+1:Nat):Int),(j:Int)))/\(¬P ((i+j)/2)->L (m+1) ((i:Int),(j:Int))=L m ((i:Int),(((i+j)/2:Nat):Int))))
 (hend:∀(m i:Nat),L (m+1) ((i:Int),(i:Int))=some (i:Int)):∀(k i j m:Nat),lo<=i->i<=j->j<=hi->j-i=k->k<m->∃r:Nat,L m ((i:Int),(j:Int))=some (r:Int)/\i<=r/\r<=j/\(i<r->P (r-1))/\(r<j->¬P r):=by
 intro k
 induction k using Nat.strongRecOn with
 |_ k ih=>
  intro i j m hl hij hh hk hm
  obtain⟨m,rfl⟩:∃m',m=m'+1:=⟨m-1,by omega⟩
  rcases Nat.eq_or_lt_of_le hij with rfl|hlt
  ·exact⟨i,hend m i,RS _,RS _,fun h=>absurd h (Nat.lt_irrefl _),fun h=>absurd h (Nat.lt_irrefl _)⟩
  ·obtain⟨s1,s2⟩:=hstep m i j hl hlt hh
   by_cases hp:P ((i+j)/2)
   ·obtain⟨r,h1,h2,h3,h4,h5⟩:=ih (j-((i+j)/2+1)) (by omega) ((i+j)/2+1) j m (by omega) (by omega) hh rfl (by omega)
    refine⟨r,(s1 hp).trans h1,by omega,h3,fun _=> ?_,h5⟩
    rcases Nat.eq_or_lt_of_le h2 with e|e
    ·rw[<-e];exact hp
    ·exact h4 e
   ·obtain⟨r,h1,h2,h3,h4,h5⟩:=ih ((i+j)/2-i) (by omega) i ((i+j)/2) m hl (by omega) (by omega) rfl (by omega)
    refine⟨r,(s2 hp).trans h1,h2,by omega,h4,fun _=> ?_⟩
    rcases Nat.eq_or_lt_of_le h3 with e|e
    ·rw[e];exact hp
    ·exact h5 e
theorem PX {l:List α} {i:Nat} {x:α} (h:l[i]? =some x):aB l (i:Int)=some x:=by
 have hi:i<l.length:=by rw[afM] at h;exact h.1
 unfold aB
 rw[if_pos ⟨by omega,by omega⟩]
 simpa using h
theorem ES {l:List α} {i:Nat} (h:i<l.length):decide ((0:Int)<=(i:Int)/\(i:Int)< ((l.length:Nat):Int))=true:=oV (by omega) (by omega)
theorem eY.le {key:α->Int} {l:List α} (h:eY key l) {i j:Nat} {x y:α} (hij:i<=j) (hx:l[i]? =some x) (hy:l[j]? =some y):key x<=key y:=by
 rw[afM] at hx hy
 obtain⟨h1,rfl⟩:=hx
 obtain⟨h2,rfl⟩:=hy
 rcases Nat.eq_or_lt_of_le hij with rfl|hlt
 ·exact ajN _
 ·exact(List.pairwise_iff_getElem.1 h) i j h1 h2 hlt
section
variable {L9:Nat->Int->Nat->Int×List α->Option (PUnit×List α)}
 (h9:∀(g:Nat) (bW:Int) (m:Nat) (bD:Int) (eH:List α),L9 g bW (m+1) (bD,eH)=
   bif decide (bD< (Go.IntKind.wrap .i64 (bW-((1:Int))))) then
    bif decide (0<=(Go.IntKind.wrap .i64 (bD+((1:Int))))/\(Go.IntKind.wrap .i64 (bD+((1:Int))))< ((eH.length:Nat):Int)) then
     (aB eH (Go.IntKind.wrap .i64 (bD+((1:Int))))).bind fun (eG:α)=>
     bif decide (0<=bD/\bD< ((eH.length:Nat):Int)) then
      (aB eH bD).bind fun (iJ:α)=>
      bif decide (0<=bD/\bD< ((eH.length:Nat):Int)) then
       (aB eH bD).bind fun (jD:α)=>
       bif decide (0<=(Go.IntKind.wrap .i64 (bD+((1:Int))))/\(Go.IntKind.wrap .i64 (bD+((1:Int))))< (((aW eH bD eG).length:Nat):Int)) then
        (aB (aW eH bD eG) (Go.IntKind.wrap .i64 (bD+((1:Int))))).bind fun (r16:α)=>
        L9 g bW m ((Go.IntKind.wrap .i64 (bD+((1:Int))),aW (aW eH bD eG) (Go.IntKind.wrap .i64 (bD+((1:Int)))) iJ))
       else
        none
      else
       none
     else
      none
    else
     none
   else
    some (((),eH)))
include h9
theorem fwd {g:Nat} {x:α} {B:List α}:∀(V A:List α) (m:Nat),(A++x::(V++B)).length<2^61->V.length<m->
 L9 g ((A.length+1+V.length:Nat):Int) m ((A.length:Int),A++x::(V++B))=some ((),A++(V++x::B))
 | [],A,m,hb,hm=>by
   obtain⟨m,rfl⟩:∃m',m=m'+1:=⟨m-1,by omega⟩
   simp only[iP,List.length_cons] at hb
   rw[h9,show IntKind.wrap .i64 (((A.length+1+([]:List α).length:Nat):Int)-(1:Int))=((A.length:Nat):Int) by rw[wr (by omega) (by simp only[List.length_nil];omega)];simp only[List.length_nil];omega]
   exact iF (decide_eq_false (by omega)) rfl
 |y::V,A,m,hb,hm=>by
  obtain⟨m,rfl⟩:∃m',m=m'+1:=⟨m-1,by omega⟩
  simp only[iP,List.length_cons] at hb hm
  have e1:IntKind.wrap .i64 ((A.length:Int)+(1:Int))=((A++[x]).length:Nat):=by rw[wr (by omega) (by omega)];simp
  have el:A++x::((y::V)++B)=(A++[x])++y::(V++B):=by simp
  rw[h9,e1,show IntKind.wrap .i64 (((A.length+1+(y::V).length:Nat):Int)-(1:Int))=((A.length+1+V.length:Nat):Int) by rw[wr (by omega) (by simp only[List.length_cons];omega)];simp only[List.length_cons];omega]
  refine iT (decide_eq_true (by omega)) ?_
  refine gT (oV (by omega) (by simp only[iP,List.length_cons,List.length_nil];omega)) (bd (a:=y) (by rw[el];exact nX _ _ _ rfl) ?_)
  refine gT (oV (by omega) (by simp only[iP,List.length_cons,List.length_nil];omega)) (bd (a:=x) (nX _ _ _ rfl) ?_)
  refine gT (oV (by omega) (by simp only[iP,List.length_cons,List.length_nil];omega)) (bd (a:=x) (nX _ _ _ rfl) ?_)
  rw[set_mid _ _ _ _ rfl,show A++y::((y::V)++B)=(A++[y])++y::(V++B) by simp,show (((A++[x]).length:Nat):Int)=(((A++[y]).length:Nat):Int) by simp]
  refine gT (oV (by omega) (by simp only[iP,List.length_cons,List.length_nil];omega)) (bd (nX _ _ _ rfl) ?_)
  rw[set_mid _ _ _ _ rfl]
  have:=fwd (g:=g) (x:=x) (B:=B) V (A++[y]) m (by simp only[iP,List.length_cons,List.length_nil];omega) (by omega)
  rw[show ((A.length+1+(y::V).length:Nat):Int)=(((A++[y]).length+1+V.length:Nat):Int) by simp only[iP,List.length_cons,List.length_nil];omega,this]
  simp
end
section
variable {y8:Nat->Int->Nat->Int×List α->Option (PUnit×List α)}
 (h21:∀(g:Nat) (kS:Int) (m:Nat) (x24:Int) (x25:List α),y8 g kS (m+1) (x24,x25)=
   bif decide (x24>kS) then
    bif decide (0<=(Go.IntKind.wrap .i64 (x24-((1:Int))))/\(Go.IntKind.wrap .i64 (x24-((1:Int))))< ((x25.length:Nat):Int)) then
     (aB x25 (Go.IntKind.wrap .i64 (x24-((1:Int))))).bind fun (qW:α)=>
     bif decide (0<=x24/\x24< ((x25.length:Nat):Int)) then
      (aB x25 x24).bind fun (jG:α)=>
      bif decide (0<=x24/\x24< ((x25.length:Nat):Int)) then
       (aB x25 x24).bind fun (r28:α)=>
       bif decide (0<=(Go.IntKind.wrap .i64 (x24-((1:Int))))/\(Go.IntKind.wrap .i64 (x24-((1:Int))))< (((aW x25 x24 qW).length:Nat):Int)) then
        (aB (aW x25 x24 qW) (Go.IntKind.wrap .i64 (x24-((1:Int))))).bind fun (PL:α)=>
        y8 g kS m ((Go.IntKind.wrap .i64 (x24-((1:Int))),aW (aW x25 x24 qW) (Go.IntKind.wrap .i64 (x24-((1:Int)))) jG))
       else
        none
      else
       none
     else
      none
    else
     none
   else
    some (((),x25)))
include h21
theorem bwd {g:Nat} {x:α} {A:List α}:∀(k:Nat) (U B:List α) (m:Nat),U.length=k->(A++(U++x::B)).length<2^61->U.length<m->
 y8 g (A.length:Int) m (((A.length+U.length:Nat):Int),A++(U++x::B))=some ((),A++(x::(U++B))):=by
 intro k
 induction k with
 |zero=>
  intro U B m hU hb hm
  obtain rfl:=adK hU
  obtain⟨m,rfl⟩:∃m',m=m'+1:=⟨m-1,by omega⟩
  rw[h21]
  exact iF (decide_eq_false (by simp only[List.length_nil];omega)) rfl
 |succ k ih=>
  intro U B m hU hb hm
  obtain⟨m,rfl⟩:∃m',m=m'+1:=⟨m-1,by omega⟩
  obtain⟨U,y,rfl⟩:∃S' y,U=S'++[y]:=by
   have hne:U≠[]:=by rintro rfl;simp at hU
   exact⟨U.dropLast,U.getLast hne,(List.dropLast_concat_getLast hne).symm⟩
  simp only[iP,List.length_cons,List.length_nil] at hb hm hU
  have e1:IntKind.wrap .i64 (((A.length+(U++[y]).length:Nat):Int)-(1:Int))=((A++U).length:Nat):=by rw[wr (by omega) (by simp only[iP,List.length_cons,List.length_nil];omega)];simp only[iP,List.length_cons,List.length_nil];omega
  have e2:((A.length+(U++[y]).length:Nat):Int)=((A++U++[y]).length:Nat):=by simp only[iP,List.length_cons,List.length_nil];omega
  have el:A++((U++[y])++x::B)=(A++U)++y::x::B:=by simp
  have er:A++((U++[y])++x::B)=(A++U++[y])++x::B:=by simp
  rw[h21,e1]
  refine iT (decide_eq_true (by simp only[iP,List.length_cons,List.length_nil];omega)) ?_
  refine gT (oV (by omega) (by simp only[iP,List.length_cons,List.length_nil];omega)) (bd (a:=y) (by rw[el];exact nX _ _ _ rfl) ?_)
  refine gT (oV (by omega) (by simp only[iP,List.length_cons,List.length_nil];omega)) (bd (a:=x) (by rw[er];exact nX _ _ _ e2) ?_)
  refine gT (oV (by omega) (by simp only[iP,List.length_cons,List.length_nil];omega)) (bd (a:=x) (by rw[er];exact nX _ _ _ e2) ?_)
  rw[er,set_mid _ _ _ _ e2,show A++U++[y]++y::B=(A++U)++y::y::B by simp]
  refine gT (oV (by omega) (by simp only[iP,List.length_cons,List.length_nil];omega)) (bd (nX _ _ _ rfl) ?_)
  rw[set_mid _ _ _ _ rfl]
  have:=ih U (y::B) m (by omega) (by simp only[iP,List.length_cons,List.length_nil];omega) (by omega)
  rw[show (((A++U).length:Nat):Int)=((A.length+U.length:Nat):Int) by rw[iP],acF,this]
  simp
end
end So
end
section
open Go Aq
namespace So
variable {α:Type}
theorem J7 {i j:Nat} (h:i+j<2^61):IntKind.wrap .i64 (aD IntKind.u64 (IntKind.wrap .u64 (IntKind.wrap .i64 ((i:Int)+(j:Int)))) (1:Int))=(((i+j)/2:Nat):Int):=by
 rw[ap3 (by omega) (by omega)];omega
theorem PY {A V B:List α} {h:Nat} (h1:A.length<=h) (h2:h<A.length+V.length):(A++(V++B))[h]? =V[h-A.length]? :=by
 rw[List.getElem?_append_right h1,amk (by omega)]
theorem Vt {l:List α} {k:Nat} {v:α} (h:v∈l.take k):∃i,i<k/\l[i]? =some v:=by
 obtain⟨i,hi⟩:=List.getElem?_of_mem h
 rw[List.getElem?_take] at hi
 split at hi
 ·exact⟨i,by assumption,hi⟩
 ·cases hi
theorem Vu {l:List α} {k:Nat} {v:α} (h:v∈l.drop k):∃i,k<=i/\l[i]? =some v:=by
 obtain⟨i,hi⟩:=List.getElem?_of_mem h
 rw[List.getElem?_drop] at hi
 exact⟨k+i,by omega,hi⟩
theorem get_some {l:List α} {i:Nat} (h:i<l.length):∃v,l[i]? =some v:=⟨l[i],acR h⟩
theorem cut {key:α->Int} {V:List α} (hV:eY key V) {k:Nat} (Q:Int->Prop) (hQ:∀a b,a<=b->Q b->Q a) (h1:0<k->∃v,V[k-1]? =some v/\Q (key v)) (h2:k<V.length->∃v,V[k]? =some v/\¬Q (key v)):
 (∀v∈V.take k,Q (key v))/\∀v∈V.drop k,¬Q (key v):=by
 refine⟨fun v hv=> ?_,fun v hv hq=> ?_⟩
 ·obtain⟨i,hi,hg⟩:=Vt hv
  obtain⟨w,hw,Vv⟩:=h1 (by omega)
  exact hQ _ _ (hV.le (by omega) hg hw) Vv
 ·obtain⟨i,hi,hg⟩:=Vu hv
  have hlt:i<V.length:=by rw[afM] at hg;exact hg.1
  obtain⟨w,hw,Vv⟩:=h2 (by omega)
  exact Vv (hQ _ _ (hV.le hi hw hg) hq)
section
variable {key:α->Int} {cmp:α×α->Option Int} (hc:J6 key cmp) {n:Nat}
include hc
section
variable {L3:Nat->Int->List α->Nat->Int×Int->Option Int}
 (h3:∀(g:Nat) (x1:Int) (x4:List α) (m:Nat) (x5:Int) (x6:Int),L3 g x1 x4 (m+1) (x5,x6)=
   bif decide (x5<x6) then
    bif decide (((0:Int))<=((1:Int))) then
     bif decide (0<=(Go.IntKind.wrap .i64 (aD Go.IntKind.u64 (Go.IntKind.wrap .u64 (Go.IntKind.wrap .i64 (x5+x6))) ((1:Int))))/\(Go.IntKind.wrap .i64 (aD Go.IntKind.u64 (Go.IntKind.wrap .u64 (Go.IntKind.wrap .i64 (x5+x6))) ((1:Int))))< ((x4.length:Nat):Int)) then
      (aB x4 (Go.IntKind.wrap .i64 (aD Go.IntKind.u64 (Go.IntKind.wrap .u64 (Go.IntKind.wrap .i64 (x5+x6))) ((1:Int))))).bind fun (r7:α)=>
      bif decide (0<=x1/\x1< ((x4.length:Nat):Int)) then
       (aB x4 x1).bind fun (r8:α)=>
       (cmp ((r7,r8))).bind fun (r9:Int)=>
       bif decide (r9< ((0:Int))) then
        L3 g x1 x4 m ((Go.IntKind.wrap .i64 ((Go.IntKind.wrap .i64 (aD Go.IntKind.u64 (Go.IntKind.wrap .u64 (Go.IntKind.wrap .i64 (x5+x6))) ((1:Int))))+((1:Int))),x6))
       else
        L3 g x1 x4 m ((x5,Go.IntKind.wrap .i64 (aD Go.IntKind.u64 (Go.IntKind.wrap .u64 (Go.IntKind.wrap .i64 (x5+x6))) ((1:Int)))))
      else
       none
     else
      none
    else
     none
   else
    some x5)
include h3
theorem s3 {g:Nat} {A V B:List α} {x:α} (hV:eY key V) (hb:(A++x::(V++B)).length<2^60) (hn:V.length<n):∃V1 V2,V=V1++V2/\L3 g (A.length:Int) (A++x::(V++B)) n (((A.length+1:Nat):Int),((A.length+1+V.length:Nat):Int))=some ((A.length+1+V1.length:Nat):Int)/\(∀v∈V1,key v<key x)/\∀v∈V2,¬key v<key x:=by
 have hD:A++x::(V++B)=(A++[x])++(V++B):=by simp
 have hL:(A++[x]).length=A.length+1:=by simp
 simp only[iP,List.length_cons] at hb
 have hget:∀h,A.length+1<=h->h<A.length+1+V.length->(A++x::(V++B))[h]? =V[h-(A.length+1)]? :=fun h h1 h2=>by
  rw[hD,<-hL];exact PY (by omega) (by omega)
 have hx:aB (A++x::(V++B)) (A.length:Int)=some x:=nX _ _ _ rfl
 obtain⟨r,e1,e2,e3,e4,e5⟩:=bsearch (L:=fun m p=>L3 g (A.length:Int) (A++x::(V++B)) m p) (fun h=> ∃v,V[h-(A.length+1)]? =some v/\key v<key x) (A.length+1) (A.length+1+V.length) (fun m i j hi hj hh=>by
  obtain⟨v,hv⟩:=get_some (l:=V) (i:=(i+j)/2-(A.length+1)) (by omega)
  have hv':=(hget ((i+j)/2) (by omega) (by omega)).trans hv
  have hlt:(i+j)/2< (A++x::(V++B)).length:=by simp only[iP,List.length_cons];omega
  obtain⟨r,hr,tY⟩:=hc v x
  have pre:∀z,(bif decide (r< (0:Int)) then L3 g (A.length:Int) (A++x::(V++B)) m ((((i+j)/2+1:Nat):Int),(j:Int)) else L3 g (A.length:Int) (A++x::(V++B)) m ((i:Int),(((i+j)/2:Nat):Int)))=z->L3 g (A.length:Int) (A++x::(V++B)) (m+1) ((i:Int),(j:Int))=z:=fun z hz=>by
   rw[h3,J7 (by omega),show IntKind.wrap .i64 ((((i+j)/2:Nat):Int)+(1:Int))=(((i+j)/2+1:Nat):Int) by rw[wr (by omega) (by omega)];omega]
   exact iT (decide_eq_true (by omega)) (gT rfl (gT (ES hlt) (bd (PX hv') (gT (ES (by simp only[iP,List.length_cons];omega)) (bd hx (bd hr hz))))))
  refine⟨fun hp=>pre _ (iT (decide_eq_true ?_) rfl),fun hp=>pre _ (iF (decide_eq_false fun h=>hp ⟨v,hv,tY.1 h⟩) rfl)⟩
  obtain⟨w,hw,hk⟩:=hp
  rw[hv] at hw;cases hw
  exact tY.2 hk)
  (fun m i=>by show L3 g _ _ (m+1) _=_;rw[h3];exact iF (by simp) rfl) _ (A.length+1) (A.length+1+V.length) n (RS _) (by omega) (RS _) rfl (by omega)
 obtain⟨c1,c2⟩:=cut hV (k:=r-(A.length+1)) (fun z=>z<key x) (fun a b h h'=>by omega) (fun h=>by
  obtain⟨v,hv,hk⟩:=e4 (by omega)
  exact⟨v,by rw[<-hv];congr 1;omega,hk⟩) (fun h=>by
  obtain⟨v,hv⟩:=get_some h
  exact⟨v,hv,fun hk=>e5 (by omega) ⟨v,hv,hk⟩⟩)
 refine⟨_,_,(aga (r-(A.length+1)) V).symm, ?_,c1,c2⟩
 rw[ads,akc (by omega),show A.length+1+(r-(A.length+1))=r by omega]
 exact e1
end
section
variable {oZ:Nat->Int->List α->Nat->Int×Int->Option Int}
 (ET:∀(g:Nat) (x2:Int) (x4:List α) (m:Nat) (x18:Int) (jF:Int),oZ g x2 x4 (m+1) (x18,jF)=
   bif decide (x18<jF) then
    bif decide (((0:Int))<=((1:Int))) then
     bif decide (0<=x2/\x2< ((x4.length:Nat):Int)) then
      (aB x4 x2).bind fun (AL:α)=>
      bif decide (0<=(Go.IntKind.wrap .i64 (aD Go.IntKind.u64 (Go.IntKind.wrap .u64 (Go.IntKind.wrap .i64 (x18+jF))) ((1:Int))))/\(Go.IntKind.wrap .i64 (aD Go.IntKind.u64 (Go.IntKind.wrap .u64 (Go.IntKind.wrap .i64 (x18+jF))) ((1:Int))))< ((x4.length:Nat):Int)) then
       (aB x4 (Go.IntKind.wrap .i64 (aD Go.IntKind.u64 (Go.IntKind.wrap .u64 (Go.IntKind.wrap .i64 (x18+jF))) ((1:Int))))).bind fun (wN:α)=>
       (cmp ((AL,wN))).bind fun (uY:Int)=>
       bif !(decide (uY< ((0:Int)))) then
        oZ g x2 x4 m ((Go.IntKind.wrap .i64 ((Go.IntKind.wrap .i64 (aD Go.IntKind.u64 (Go.IntKind.wrap .u64 (Go.IntKind.wrap .i64 (x18+jF))) ((1:Int))))+((1:Int))),jF))
       else
        oZ g x2 x4 m ((x18,Go.IntKind.wrap .i64 (aD Go.IntKind.u64 (Go.IntKind.wrap .u64 (Go.IntKind.wrap .i64 (x18+jF))) ((1:Int)))))
      else
       none
     else
      none
    else
     none
   else
    some x18)
include ET
theorem s15 {g:Nat} {A U B:List α} {y:α} (hU:eY key U) (hb:(A++(U++y::B)).length<2^60) (hn:U.length<n):∃U1 U2,U=U1++U2/\oZ g ((A.length+U.length:Nat):Int) (A++(U++y::B)) n ((A.length:Int),((A.length+U.length:Nat):Int))=some ((A.length+U1.length:Nat):Int)/\(∀u∈U1,key u<=key y)/\∀u∈U2,¬key u<=key y:=by
 have hD:A++(U++y::B)=(A++U)++y::B:=by simp
 simp only[iP,List.length_cons] at hb
 have hget:∀h,A.length<=h->h<A.length+U.length->(A++(U++y::B))[h]? =U[h-A.length]? :=fun h h1 h2=>PY h1 h2
 have hx:aB (A++(U++y::B)) ((A.length+U.length:Nat):Int)=some y:=by rw[hD];exact nX _ _ _ (by simp)
 obtain⟨r,e1,e2,e3,e4,e5⟩:=bsearch (L:=fun m p=>oZ g ((A.length+U.length:Nat):Int) (A++(U++y::B)) m p) (fun h=> ∃v,U[h-A.length]? =some v/\key v<=key y) A.length (A.length+U.length) (fun m i j hi hj hh=>by
  obtain⟨v,hv⟩:=get_some (l:=U) (i:=(i+j)/2-A.length) (by omega)
  have hv':=(hget ((i+j)/2) (by omega) (by omega)).trans hv
  have hlt:(i+j)/2< (A++(U++y::B)).length:=by simp only[iP,List.length_cons];omega
  obtain⟨r,hr,tY⟩:=hc y v
  have pre:∀z,(bif !(decide (r< (0:Int))) then oZ g ((A.length+U.length:Nat):Int) (A++(U++y::B)) m ((((i+j)/2+1:Nat):Int),(j:Int)) else oZ g ((A.length+U.length:Nat):Int) (A++(U++y::B)) m ((i:Int),(((i+j)/2:Nat):Int)))=z->oZ g ((A.length+U.length:Nat):Int) (A++(U++y::B)) (m+1) ((i:Int),(j:Int))=z:=fun z hz=>by
   rw[ET,J7 (by omega),show IntKind.wrap .i64 ((((i+j)/2:Nat):Int)+(1:Int))=(((i+j)/2+1:Nat):Int) by rw[wr (by omega) (by omega)];omega]
   exact iT (decide_eq_true (by omega)) (gT rfl (gT (ES (by simp only[iP,List.length_cons];omega)) (bd hx (gT (ES hlt) (bd (PX hv') (bd hr hz))))))
  refine⟨fun hp=>pre _ (iT ?_ rfl),fun hp=>pre _ (iF ?_ rfl)⟩
  ·obtain⟨w,hw,hk⟩:=hp
   rw[hv] at hw;cases hw
   rw[decide_eq_false (fun h=>by have:=tY.1 h;omega)];rfl
  ·rw[decide_eq_true (tY.2 (Int.not_le.1 fun h=>hp ⟨v,hv,h⟩))];rfl)
  (fun m i=>by show oZ g _ _ (m+1) _=_;rw[ET];exact iF (by simp) rfl) _ A.length (A.length+U.length) n (RS _) (by omega) (RS _) rfl (by omega)
 obtain⟨c1,c2⟩:=cut hU (k:=r-A.length) (fun z=>z<=key y) (fun a b h h'=>by omega) (fun h=>by
  obtain⟨v,hv,hk⟩:=e4 (by omega)
  exact⟨v,by rw[<-hv];congr 1;omega,hk⟩) (fun h=>by
  obtain⟨v,hv⟩:=get_some h
  exact⟨v,hv,fun hk=>e5 (by omega) ⟨v,hv,hk⟩⟩)
 refine⟨_,_,(aga (r-A.length) U).symm, ?_,c1,c2⟩
 rw[ads,akc (by omega),show A.length+(r-A.length)=r by omega]
 exact e1
end
end
end So
end
section
open Go Aq
namespace So
variable {α:Type}
theorem dR.mem {key:α->Int} {s t:List α} (h:dR key s t) {a:α} (ha:a∈s):a∈t:=by
 have h1:a∈s.filter (fun x=>key x==key a):=aji.2 ⟨ha,by simp⟩
 rw[h (key a)] at h1
 exact(aji.1 h1).1
theorem dR.refl {key:α->Int} (s:List α):dR key s s:=fun _=>rfl
theorem dR.app {key:α->Int} {s t s' t':List α} (h:dR key s t) (h':dR key s' t'):dR key (s++s') (t++t'):=fun k=>by rw[ama,ama,h k,h' k]
theorem dR.trans {key:α->Int} {s t u:List α} (h:dR key s t) (h':dR key t u):dR key s u:=fun k=>(h k).trans (h' k)
theorem dR.swap {key:α->Int} {s t:List α} (h:∀a∈s,∀b∈t,key a<key b):dR key (s++t) (t++s):=by
 intro k
 rw[ama,ama]
 by_cases hs:s.filter (fun a=>key a==k)=[]
 ·rw[hs];simp
 ·have:t.filter (fun a=>key a==k)=[]:=by
   obtain⟨a,ha⟩:=List.exists_mem_of_ne_nil _ hs
   rw[List.filter_eq_nil_iff]
   intro b hb hk
   obtain⟨h1,h2⟩:=aji.1 ha
   have:=h a h1 b hb
   have e1:key a=k:=by simpa using h2
   have e2:key b=k:=by simpa using hk
   omega
  rw[this];simp
theorem eY.app {key:α->Int} {s t:List α} (h:eY key s) (h':eY key t) (hh:∀a∈s,∀b∈t,key a<=key b):eY key (s++t):=List.pairwise_append.2 ⟨h,h',hh⟩
section
variable {key:α->Int} {cmp:α×α->Option Int} (hc:J6 key cmp) {n:Nat}
 {nH:Nat->Int->Int->Int->List α->Nat->Int×Int->Option Int}
 (EU:∀(g:Nat) (x1:Int) (x2:Int) (x3:Int) (x4:List α) (m:Nat) (x31:Int) (x32:Int),nH g x1 x2 x3 x4 (m+1) (x31,x32)=
   bif decide (x31<x32) then
    bif decide (((0:Int))<=((1:Int))) then
     bif decide (0<=(Go.IntKind.wrap .i64 ((Go.IntKind.wrap .i64 ((Go.IntKind.wrap .i64 ((Go.IntKind.wrap .i64 (aD Go.IntKind.u64 (Go.IntKind.wrap .u64 (Go.IntKind.wrap .i64 (x1+x3))) ((1:Int))))+x2))-((1:Int))))-(Go.IntKind.wrap .i64 (aD Go.IntKind.u64 (Go.IntKind.wrap .u64 (Go.IntKind.wrap .i64 (x31+x32))) ((1:Int))))))/\(Go.IntKind.wrap .i64 ((Go.IntKind.wrap .i64 ((Go.IntKind.wrap .i64 ((Go.IntKind.wrap .i64 (aD Go.IntKind.u64 (Go.IntKind.wrap .u64 (Go.IntKind.wrap .i64 (x1+x3))) ((1:Int))))+x2))-((1:Int))))-(Go.IntKind.wrap .i64 (aD Go.IntKind.u64 (Go.IntKind.wrap .u64 (Go.IntKind.wrap .i64 (x31+x32))) ((1:Int))))))< ((x4.length:Nat):Int)) then
      (aB x4 (Go.IntKind.wrap .i64 ((Go.IntKind.wrap .i64 ((Go.IntKind.wrap .i64 ((Go.IntKind.wrap .i64 (aD Go.IntKind.u64 (Go.IntKind.wrap .u64 (Go.IntKind.wrap .i64 (x1+x3))) ((1:Int))))+x2))-((1:Int))))-(Go.IntKind.wrap .i64 (aD Go.IntKind.u64 (Go.IntKind.wrap .u64 (Go.IntKind.wrap .i64 (x31+x32))) ((1:Int))))))).bind fun (AY:α)=>
      bif decide (0<=(Go.IntKind.wrap .i64 (aD Go.IntKind.u64 (Go.IntKind.wrap .u64 (Go.IntKind.wrap .i64 (x31+x32))) ((1:Int))))/\(Go.IntKind.wrap .i64 (aD Go.IntKind.u64 (Go.IntKind.wrap .u64 (Go.IntKind.wrap .i64 (x31+x32))) ((1:Int))))< ((x4.length:Nat):Int)) then
       (aB x4 (Go.IntKind.wrap .i64 (aD Go.IntKind.u64 (Go.IntKind.wrap .u64 (Go.IntKind.wrap .i64 (x31+x32))) ((1:Int))))).bind fun (JM:α)=>
       (cmp ((AY,JM))).bind fun (JN:Int)=>
       bif !(decide (JN< ((0:Int)))) then
        nH g x1 x2 x3 x4 m ((Go.IntKind.wrap .i64 ((Go.IntKind.wrap .i64 (aD Go.IntKind.u64 (Go.IntKind.wrap .u64 (Go.IntKind.wrap .i64 (x31+x32))) ((1:Int))))+((1:Int))),x32))
       else
        nH g x1 x2 x3 x4 m ((x31,Go.IntKind.wrap .i64 (aD Go.IntKind.u64 (Go.IntKind.wrap .u64 (Go.IntKind.wrap .i64 (x31+x32))) ((1:Int)))))
      else
       none
     else
      none
    else
     none
   else
    some x31)
include hc EU
theorem s33 {g:Nat} {A U V B:List α} {lo hi mid:Nat} (hmid:mid=(A.length+(A.length+U.length+V.length))/2) (hlo:A.length<=lo) (hhi:hi<=A.length+U.length) (hm1:hi<=mid) (hm2:mid<=lo+V.length) (hlh:lo<=hi) (hb:(A++(U++(V++B))).length<2^59) (hn:U.length+V.length<n):
 ∃s:Nat,nH g (A.length:Int) ((A.length+U.length:Nat):Int) ((A.length+U.length+V.length:Nat):Int) (A++(U++(V++B))) n ((lo:Int),(hi:Int))=some (s:Int)/\lo<=s/\s<=hi/\
  (lo<s->∃u v,U[s-1-A.length]? =some u/\V[mid-s]? =some v/\key u<=key v)/\(s<hi->∃u v,U[s-A.length]? =some u/\V[mid-1-s]? =some v/\key v<key u):=by
 simp only[iP] at hb
 have gu:∀h,A.length<=h->h<A.length+U.length->(A++(U++(V++B)))[h]? =U[h-A.length]? :=fun h h1 h2=>PY h1 h2
 have gv:∀h,A.length+U.length<=h->h<A.length+U.length+V.length->(A++(U++(V++B)))[h]? =V[h-(A.length+U.length)]? :=fun h h1 h2=>by
  rw[<-acF,PY (by rw[iP];omega) (by rw[iP];omega),iP]
 obtain⟨r,e1,e2,e3,e4,e5⟩:=bsearch (L:=fun m p=>nH g (A.length:Int) ((A.length+U.length:Nat):Int) ((A.length+U.length+V.length:Nat):Int) (A++(U++(V++B))) m p) (fun c=> ∃u v,U[c-A.length]? =some u/\V[mid-1-c]? =some v/\key u<=key v) lo hi (fun m i j hi' hj hh=>by
  obtain⟨u,hu⟩:=get_some (l:=U) (i:=(i+j)/2-A.length) (by omega)
  obtain⟨v,hv⟩:=get_some (l:=V) (i:=mid-1-(i+j)/2) (by omega)
  have hu':=(gu ((i+j)/2) (by omega) (by omega)).trans hu
  have hv':(A++(U++(V++B)))[mid+(A.length+U.length)-1-(i+j)/2]? =some v:=by
   rw[gv _ (by omega) (by omega),<-hv];congr 1;omega
  have lu:(i+j)/2< (A++(U++(V++B))).length:=by simp only[iP];omega
  have lv:mid+(A.length+U.length)-1-(i+j)/2< (A++(U++(V++B))).length:=by simp only[iP];omega
  obtain⟨r,hr,tY⟩:=hc v u
  have pre:∀z,(bif !(decide (r< (0:Int))) then nH g (A.length:Int) ((A.length+U.length:Nat):Int) ((A.length+U.length+V.length:Nat):Int) (A++(U++(V++B))) m ((((i+j)/2+1:Nat):Int),(j:Int)) else nH g (A.length:Int) ((A.length+U.length:Nat):Int) ((A.length+U.length+V.length:Nat):Int) (A++(U++(V++B))) m ((i:Int),(((i+j)/2:Nat):Int)))=z->nH g (A.length:Int) ((A.length+U.length:Nat):Int) ((A.length+U.length+V.length:Nat):Int) (A++(U++(V++B))) (m+1) ((i:Int),(j:Int))=z:=fun z hz=>by
   rw[EU,J7 (i:=i) (j:=j) (by omega),J7 (i:=A.length) (j:=A.length+U.length+V.length) (by omega),<-hmid,
    show IntKind.wrap .i64 ((mid:Int)+((A.length+U.length:Nat):Int))=((mid+(A.length+U.length):Nat):Int) by rw[wr (by omega) (by omega)];omega,
    show IntKind.wrap .i64 (((mid+(A.length+U.length):Nat):Int)-(1:Int))=((mid+(A.length+U.length)-1:Nat):Int) by rw[wr (by omega) (by omega)];omega,
    show IntKind.wrap .i64 (((mid+(A.length+U.length)-1:Nat):Int)-(((i+j)/2:Nat):Int))=((mid+(A.length+U.length)-1-(i+j)/2:Nat):Int) by rw[wr (by omega) (by omega)];omega,
    show IntKind.wrap .i64 ((((i+j)/2:Nat):Int)+(1:Int))=(((i+j)/2+1:Nat):Int) by rw[wr (by omega) (by omega)];omega]
   exact iT (decide_eq_true (by omega)) (gT rfl (gT (ES lv) (bd (PX hv') (gT (ES lu) (bd (PX hu') (bd hr hz))))))
  refine⟨fun hp=>pre _ (iT ?_ rfl),fun hp=>pre _ (iF ?_ rfl)⟩
  ·obtain⟨u',v',hu2,hv2,hk⟩:=hp
   rw[hu] at hu2;rw[hv] at hv2;cases hu2;cases hv2
   rw[decide_eq_false (fun h=>by have:=tY.1 h;omega)];rfl
  ·rw[decide_eq_true (tY.2 (Int.not_le.1 fun h=>hp ⟨u,v,hu,hv,h⟩))];rfl)
  (fun m i=>by show nH g _ _ _ _ (m+1) _=_;rw[EU];exact iF (by simp) rfl) _ lo hi n (RS _) hlh (RS _) rfl (by omega)
 refine⟨r,e1,e2,e3,fun h=> ?_,fun h=> ?_⟩
 ·obtain⟨u,v,h1,h2,h3⟩:=e4 h
  exact⟨u,v,h1,by rw[<-h2];congr 1;omega,h3⟩
 ·obtain⟨u,hu⟩:=get_some (l:=U) (i:=r-A.length) (by omega)
  obtain⟨v,hv⟩:=get_some (l:=V) (i:=mid-1-r) (by omega)
  exact⟨u,v,hu,hv,Int.not_le.1 fun hk=>e5 h ⟨u,v,hu,hv,hk⟩⟩
end
end So
end
section
open Go Aq
namespace So
variable {α:Type}
theorem Vw {p q:Prop} [Decidable p] [Decidable q] (hp:p) (hq:q):(bif decide p then decide q else false)=true:=by rw[decide_eq_true hp,decide_eq_true hq];rfl
theorem Vx {p q:Prop} [Decidable p] [Decidable q] (h:¬(p/\q)):(bif decide p then decide q else false)=false:=by
 by_cases hp:p
 ·rw[decide_eq_true hp,decide_eq_false fun hq=>h ⟨hp,hq⟩];rfl
 ·rw[decide_eq_false hp];rfl
theorem qx {γ:Type} {c:Bool} {o:Option (PUnit×List α)} {d d1:List α} {K1:PUnit×List α->Option γ} {K2 r:Option γ} (h:(c=true/\o=some ((),d1))\/(c=false/\d=d1)) (k1:K1 ((),d1)=r) (k2:d=d1->K2=r):(bif c then o.bind K1 else K2)=r:=by
 rcases h with ⟨rfl,rfl⟩| ⟨rfl,e⟩
 ·exact k1
 ·exact k2 e
section
variable {key:α->Int} {cmp:α×α->Option Int} (hc:J6 key cmp) {n:Nat}
 {L3:Nat->Int->List α->Nat->Int×Int->Option Int} {L9:Nat->Int->Nat->Int×List α->Option (PUnit×List α)}
 {oZ:Nat->Int->List α->Nat->Int×Int->Option Int} {y8:Nat->Int->Nat->Int×List α->Option (PUnit×List α)}
 {nH:Nat->Int->Int->Int->List α->Nat->Int×Int->Option Int}
 {ro:Unit×Int×Int×Int×(Unit×Unit)->List α->Option (PUnit×List α)} {S:Nat->Unit×Int×Int×Int×(Unit×Unit)->List α->Option (PUnit×List α)}
 (h3:∀(g:Nat) (x1:Int) (x4:List α) (m:Nat) (x5:Int) (x6:Int),L3 g x1 x4 (m+1) (x5,x6)=
   bif decide (x5<x6) then
    bif decide (((0:Int))<=((1:Int))) then
     bif decide (0<=(Go.IntKind.wrap .i64 (aD Go.IntKind.u64 (Go.IntKind.wrap .u64 (Go.IntKind.wrap .i64 (x5+x6))) ((1:Int))))/\(Go.IntKind.wrap .i64 (aD Go.IntKind.u64 (Go.IntKind.wrap .u64 (Go.IntKind.wrap .i64 (x5+x6))) ((1:Int))))< ((x4.length:Nat):Int)) then
      (aB x4 (Go.IntKind.wrap .i64 (aD Go.IntKind.u64 (Go.IntKind.wrap .u64 (Go.IntKind.wrap .i64 (x5+x6))) ((1:Int))))).bind fun (r7:α)=>
      bif decide (0<=x1/\x1< ((x4.length:Nat):Int)) then
       (aB x4 x1).bind fun (r8:α)=>
       (cmp ((r7,r8))).bind fun (r9:Int)=>
       bif decide (r9< ((0:Int))) then
        L3 g x1 x4 m ((Go.IntKind.wrap .i64 ((Go.IntKind.wrap .i64 (aD Go.IntKind.u64 (Go.IntKind.wrap .u64 (Go.IntKind.wrap .i64 (x5+x6))) ((1:Int))))+((1:Int))),x6))
       else
        L3 g x1 x4 m ((x5,Go.IntKind.wrap .i64 (aD Go.IntKind.u64 (Go.IntKind.wrap .u64 (Go.IntKind.wrap .i64 (x5+x6))) ((1:Int)))))
      else
       none
     else
      none
    else
     none
   else
    some x5)
 (h9:∀(g:Nat) (bW:Int) (m:Nat) (bD:Int) (eH:List α),L9 g bW (m+1) (bD,eH)=
   bif decide (bD< (Go.IntKind.wrap .i64 (bW-((1:Int))))) then
    bif decide (0<=(Go.IntKind.wrap .i64 (bD+((1:Int))))/\(Go.IntKind.wrap .i64 (bD+((1:Int))))< ((eH.length:Nat):Int)) then
     (aB eH (Go.IntKind.wrap .i64 (bD+((1:Int))))).bind fun (eG:α)=>
     bif decide (0<=bD/\bD< ((eH.length:Nat):Int)) then
      (aB eH bD).bind fun (iJ:α)=>
      bif decide (0<=bD/\bD< ((eH.length:Nat):Int)) then
       (aB eH bD).bind fun (jD:α)=>
       bif decide (0<=(Go.IntKind.wrap .i64 (bD+((1:Int))))/\(Go.IntKind.wrap .i64 (bD+((1:Int))))< (((aW eH bD eG).length:Nat):Int)) then
        (aB (aW eH bD eG) (Go.IntKind.wrap .i64 (bD+((1:Int))))).bind fun (r16:α)=>
        L9 g bW m ((Go.IntKind.wrap .i64 (bD+((1:Int))),aW (aW eH bD eG) (Go.IntKind.wrap .i64 (bD+((1:Int)))) iJ))
       else
        none
      else
       none
     else
      none
    else
     none
   else
    some (((),eH)))
 (ET:∀(g:Nat) (x2:Int) (x4:List α) (m:Nat) (x18:Int) (jF:Int),oZ g x2 x4 (m+1) (x18,jF)=
   bif decide (x18<jF) then
    bif decide (((0:Int))<=((1:Int))) then
     bif decide (0<=x2/\x2< ((x4.length:Nat):Int)) then
      (aB x4 x2).bind fun (AL:α)=>
      bif decide (0<=(Go.IntKind.wrap .i64 (aD Go.IntKind.u64 (Go.IntKind.wrap .u64 (Go.IntKind.wrap .i64 (x18+jF))) ((1:Int))))/\(Go.IntKind.wrap .i64 (aD Go.IntKind.u64 (Go.IntKind.wrap .u64 (Go.IntKind.wrap .i64 (x18+jF))) ((1:Int))))< ((x4.length:Nat):Int)) then
       (aB x4 (Go.IntKind.wrap .i64 (aD Go.IntKind.u64 (Go.IntKind.wrap .u64 (Go.IntKind.wrap .i64 (x18+jF))) ((1:Int))))).bind fun (wN:α)=>
       (cmp ((AL,wN))).bind fun (uY:Int)=>
       bif !(decide (uY< ((0:Int)))) then
        oZ g x2 x4 m ((Go.IntKind.wrap .i64 ((Go.IntKind.wrap .i64 (aD Go.IntKind.u64 (Go.IntKind.wrap .u64 (Go.IntKind.wrap .i64 (x18+jF))) ((1:Int))))+((1:Int))),jF))
       else
        oZ g x2 x4 m ((x18,Go.IntKind.wrap .i64 (aD Go.IntKind.u64 (Go.IntKind.wrap .u64 (Go.IntKind.wrap .i64 (x18+jF))) ((1:Int)))))
      else
       none
     else
      none
    else
     none
   else
    some x18)
 (h21:∀(g:Nat) (kS:Int) (m:Nat) (x24:Int) (x25:List α),y8 g kS (m+1) (x24,x25)=
   bif decide (x24>kS) then
    bif decide (0<=(Go.IntKind.wrap .i64 (x24-((1:Int))))/\(Go.IntKind.wrap .i64 (x24-((1:Int))))< ((x25.length:Nat):Int)) then
     (aB x25 (Go.IntKind.wrap .i64 (x24-((1:Int))))).bind fun (qW:α)=>
     bif decide (0<=x24/\x24< ((x25.length:Nat):Int)) then
      (aB x25 x24).bind fun (jG:α)=>
      bif decide (0<=x24/\x24< ((x25.length:Nat):Int)) then
       (aB x25 x24).bind fun (r28:α)=>
       bif decide (0<=(Go.IntKind.wrap .i64 (x24-((1:Int))))/\(Go.IntKind.wrap .i64 (x24-((1:Int))))< (((aW x25 x24 qW).length:Nat):Int)) then
        (aB (aW x25 x24 qW) (Go.IntKind.wrap .i64 (x24-((1:Int))))).bind fun (PL:α)=>
        y8 g kS m ((Go.IntKind.wrap .i64 (x24-((1:Int))),aW (aW x25 x24 qW) (Go.IntKind.wrap .i64 (x24-((1:Int)))) jG))
       else
        none
      else
       none
     else
      none
    else
     none
   else
    some (((),x25)))
 (EU:∀(g:Nat) (x1:Int) (x2:Int) (x3:Int) (x4:List α) (m:Nat) (x31:Int) (x32:Int),nH g x1 x2 x3 x4 (m+1) (x31,x32)=
   bif decide (x31<x32) then
    bif decide (((0:Int))<=((1:Int))) then
     bif decide (0<=(Go.IntKind.wrap .i64 ((Go.IntKind.wrap .i64 ((Go.IntKind.wrap .i64 ((Go.IntKind.wrap .i64 (aD Go.IntKind.u64 (Go.IntKind.wrap .u64 (Go.IntKind.wrap .i64 (x1+x3))) ((1:Int))))+x2))-((1:Int))))-(Go.IntKind.wrap .i64 (aD Go.IntKind.u64 (Go.IntKind.wrap .u64 (Go.IntKind.wrap .i64 (x31+x32))) ((1:Int))))))/\(Go.IntKind.wrap .i64 ((Go.IntKind.wrap .i64 ((Go.IntKind.wrap .i64 ((Go.IntKind.wrap .i64 (aD Go.IntKind.u64 (Go.IntKind.wrap .u64 (Go.IntKind.wrap .i64 (x1+x3))) ((1:Int))))+x2))-((1:Int))))-(Go.IntKind.wrap .i64 (aD Go.IntKind.u64 (Go.IntKind.wrap .u64 (Go.IntKind.wrap .i64 (x31+x32))) ((1:Int))))))< ((x4.length:Nat):Int)) then
      (aB x4 (Go.IntKind.wrap .i64 ((Go.IntKind.wrap .i64 ((Go.IntKind.wrap .i64 ((Go.IntKind.wrap .i64 (aD Go.IntKind.u64 (Go.IntKind.wrap .u64 (Go.IntKind.wrap .i64 (x1+x3))) ((1:Int))))+x2))-((1:Int))))-(Go.IntKind.wrap .i64 (aD Go.IntKind.u64 (Go.IntKind.wrap .u64 (Go.IntKind.wrap .i64 (x31+x32))) ((1:Int))))))).bind fun (AY:α)=>
      bif decide (0<=(Go.IntKind.wrap .i64 (aD Go.IntKind.u64 (Go.IntKind.wrap .u64 (Go.IntKind.wrap .i64 (x31+x32))) ((1:Int))))/\(Go.IntKind.wrap .i64 (aD Go.IntKind.u64 (Go.IntKind.wrap .u64 (Go.IntKind.wrap .i64 (x31+x32))) ((1:Int))))< ((x4.length:Nat):Int)) then
       (aB x4 (Go.IntKind.wrap .i64 (aD Go.IntKind.u64 (Go.IntKind.wrap .u64 (Go.IntKind.wrap .i64 (x31+x32))) ((1:Int))))).bind fun (JM:α)=>
       (cmp ((AY,JM))).bind fun (JN:Int)=>
       bif !(decide (JN< ((0:Int)))) then
        nH g x1 x2 x3 x4 m ((Go.IntKind.wrap .i64 ((Go.IntKind.wrap .i64 (aD Go.IntKind.u64 (Go.IntKind.wrap .u64 (Go.IntKind.wrap .i64 (x31+x32))) ((1:Int))))+((1:Int))),x32))
       else
        nH g x1 x2 x3 x4 m ((x31,Go.IntKind.wrap .i64 (aD Go.IntKind.u64 (Go.IntKind.wrap .u64 (Go.IntKind.wrap .i64 (x31+x32))) ((1:Int)))))
      else
       none
     else
      none
    else
     none
   else
    some x31)
 (hro:∀A U V B:List α,0<U.length->0<V.length->(A++(U++V)++B).length<2^61->U.length+V.length<n->ro ((),(A.length:Int),((A.length+U.length:Nat):Int),((A.length+U.length+V.length:Nat):Int),((),())) (A++(U++V)++B)=some ((),A++(V++U)++B))
 (hS:∀(g:Nat) (x1:Int) (x2:Int) (x3:Int) (x4:List α),S (g+1) (((),(x1,(x2,(x3,((),())))))) (x4)=
   bif (Go.IntKind.wrap .i64 (x2-x1))==((1:Int)) then
    (L3 g x1 x4 n ((x2,x3))).bind fun (bW:Int)=>
    (L9 g bW n ((x1,x4))).bind fun (oU:PUnit×List α)=>
    some (((),oU.2))
   else
    bif (Go.IntKind.wrap .i64 (x3-x2))==((1:Int)) then
     (oZ g x2 x4 n ((x1,x2))).bind fun (kS:Int)=>
     (y8 g kS n ((x2,x4))).bind fun (AZ:PUnit×List α)=>
     some (((),AZ.2))
    else
     bif decide (((0:Int))<=((1:Int))) then
      bif decide (x2> (Go.IntKind.wrap .i64 (aD Go.IntKind.u64 (Go.IntKind.wrap .u64 (Go.IntKind.wrap .i64 (x1+x3))) ((1:Int))))) then
       (nH g x1 x2 x3 x4 n ((Go.IntKind.wrap .i64 ((Go.IntKind.wrap .i64 ((Go.IntKind.wrap .i64 (aD Go.IntKind.u64 (Go.IntKind.wrap .u64 (Go.IntKind.wrap .i64 (x1+x3))) ((1:Int))))+x2))-x3),Go.IntKind.wrap .i64 (aD Go.IntKind.u64 (Go.IntKind.wrap .u64 (Go.IntKind.wrap .i64 (x1+x3))) ((1:Int)))))).bind fun (eO:Int)=>
       bif bif decide (eO<x2) then decide (x2< (Go.IntKind.wrap .i64 ((Go.IntKind.wrap .i64 ((Go.IntKind.wrap .i64 (aD Go.IntKind.u64 (Go.IntKind.wrap .u64 (Go.IntKind.wrap .i64 (x1+x3))) ((1:Int))))+x2))-eO))) else false then
        (ro (((),(eO,(x2,(Go.IntKind.wrap .i64 ((Go.IntKind.wrap .i64 ((Go.IntKind.wrap .i64 (aD Go.IntKind.u64 (Go.IntKind.wrap .u64 (Go.IntKind.wrap .i64 (x1+x3))) ((1:Int))))+x2))-eO),((),())))))) x4).bind fun (wO:PUnit×List α)=>
        bif bif decide (x1<eO) then decide (eO< (Go.IntKind.wrap .i64 (aD Go.IntKind.u64 (Go.IntKind.wrap .u64 (Go.IntKind.wrap .i64 (x1+x3))) ((1:Int))))) else false then
         (S g (((),(x1,(eO,(Go.IntKind.wrap .i64 (aD Go.IntKind.u64 (Go.IntKind.wrap .u64 (Go.IntKind.wrap .i64 (x1+x3))) ((1:Int))),((),())))))) wO.2).bind fun (A8:PUnit×List α)=>
         bif bif decide ((Go.IntKind.wrap .i64 (aD Go.IntKind.u64 (Go.IntKind.wrap .u64 (Go.IntKind.wrap .i64 (x1+x3))) ((1:Int))))< (Go.IntKind.wrap .i64 ((Go.IntKind.wrap .i64 ((Go.IntKind.wrap .i64 (aD Go.IntKind.u64 (Go.IntKind.wrap .u64 (Go.IntKind.wrap .i64 (x1+x3))) ((1:Int))))+x2))-eO))) then decide ((Go.IntKind.wrap .i64 ((Go.IntKind.wrap .i64 ((Go.IntKind.wrap .i64 (aD Go.IntKind.u64 (Go.IntKind.wrap .u64 (Go.IntKind.wrap .i64 (x1+x3))) ((1:Int))))+x2))-eO))<x3) else false then
          (S g (((),(Go.IntKind.wrap .i64 (aD Go.IntKind.u64 (Go.IntKind.wrap .u64 (Go.IntKind.wrap .i64 (x1+x3))) ((1:Int))),(Go.IntKind.wrap .i64 ((Go.IntKind.wrap .i64 ((Go.IntKind.wrap .i64 (aD Go.IntKind.u64 (Go.IntKind.wrap .u64 (Go.IntKind.wrap .i64 (x1+x3))) ((1:Int))))+x2))-eO),(x3,((),())))))) A8.2).bind fun (bX:PUnit×List α)=>
          some (((),bX.2))
         else
          some (((),A8.2))
        else
         bif bif decide ((Go.IntKind.wrap .i64 (aD Go.IntKind.u64 (Go.IntKind.wrap .u64 (Go.IntKind.wrap .i64 (x1+x3))) ((1:Int))))< (Go.IntKind.wrap .i64 ((Go.IntKind.wrap .i64 ((Go.IntKind.wrap .i64 (aD Go.IntKind.u64 (Go.IntKind.wrap .u64 (Go.IntKind.wrap .i64 (x1+x3))) ((1:Int))))+x2))-eO))) then decide ((Go.IntKind.wrap .i64 ((Go.IntKind.wrap .i64 ((Go.IntKind.wrap .i64 (aD Go.IntKind.u64 (Go.IntKind.wrap .u64 (Go.IntKind.wrap .i64 (x1+x3))) ((1:Int))))+x2))-eO))<x3) else false then
          (S g (((),(Go.IntKind.wrap .i64 (aD Go.IntKind.u64 (Go.IntKind.wrap .u64 (Go.IntKind.wrap .i64 (x1+x3))) ((1:Int))),(Go.IntKind.wrap .i64 ((Go.IntKind.wrap .i64 ((Go.IntKind.wrap .i64 (aD Go.IntKind.u64 (Go.IntKind.wrap .u64 (Go.IntKind.wrap .i64 (x1+x3))) ((1:Int))))+x2))-eO),(x3,((),())))))) wO.2).bind fun (qX:PUnit×List α)=>
          some (((),qX.2))
         else
          some (((),wO.2))
       else
        bif bif decide (x1<eO) then decide (eO< (Go.IntKind.wrap .i64 (aD Go.IntKind.u64 (Go.IntKind.wrap .u64 (Go.IntKind.wrap .i64 (x1+x3))) ((1:Int))))) else false then
         (S g (((),(x1,(eO,(Go.IntKind.wrap .i64 (aD Go.IntKind.u64 (Go.IntKind.wrap .u64 (Go.IntKind.wrap .i64 (x1+x3))) ((1:Int))),((),())))))) x4).bind fun (yZ:PUnit×List α)=>
         bif bif decide ((Go.IntKind.wrap .i64 (aD Go.IntKind.u64 (Go.IntKind.wrap .u64 (Go.IntKind.wrap .i64 (x1+x3))) ((1:Int))))< (Go.IntKind.wrap .i64 ((Go.IntKind.wrap .i64 ((Go.IntKind.wrap .i64 (aD Go.IntKind.u64 (Go.IntKind.wrap .u64 (Go.IntKind.wrap .i64 (x1+x3))) ((1:Int))))+x2))-eO))) then decide ((Go.IntKind.wrap .i64 ((Go.IntKind.wrap .i64 ((Go.IntKind.wrap .i64 (aD Go.IntKind.u64 (Go.IntKind.wrap .u64 (Go.IntKind.wrap .i64 (x1+x3))) ((1:Int))))+x2))-eO))<x3) else false then
          (S g (((),(Go.IntKind.wrap .i64 (aD Go.IntKind.u64 (Go.IntKind.wrap .u64 (Go.IntKind.wrap .i64 (x1+x3))) ((1:Int))),(Go.IntKind.wrap .i64 ((Go.IntKind.wrap .i64 ((Go.IntKind.wrap .i64 (aD Go.IntKind.u64 (Go.IntKind.wrap .u64 (Go.IntKind.wrap .i64 (x1+x3))) ((1:Int))))+x2))-eO),(x3,((),())))))) yZ.2).bind fun (JO:PUnit×List α)=>
          some (((),JO.2))
         else
          some (((),yZ.2))
        else
         bif bif decide ((Go.IntKind.wrap .i64 (aD Go.IntKind.u64 (Go.IntKind.wrap .u64 (Go.IntKind.wrap .i64 (x1+x3))) ((1:Int))))< (Go.IntKind.wrap .i64 ((Go.IntKind.wrap .i64 ((Go.IntKind.wrap .i64 (aD Go.IntKind.u64 (Go.IntKind.wrap .u64 (Go.IntKind.wrap .i64 (x1+x3))) ((1:Int))))+x2))-eO))) then decide ((Go.IntKind.wrap .i64 ((Go.IntKind.wrap .i64 ((Go.IntKind.wrap .i64 (aD Go.IntKind.u64 (Go.IntKind.wrap .u64 (Go.IntKind.wrap .i64 (x1+x3))) ((1:Int))))+x2))-eO))<x3) else false then
          (S g (((),(Go.IntKind.wrap .i64 (aD Go.IntKind.u64 (Go.IntKind.wrap .u64 (Go.IntKind.wrap .i64 (x1+x3))) ((1:Int))),(Go.IntKind.wrap .i64 ((Go.IntKind.wrap .i64 ((Go.IntKind.wrap .i64 (aD Go.IntKind.u64 (Go.IntKind.wrap .u64 (Go.IntKind.wrap .i64 (x1+x3))) ((1:Int))))+x2))-eO),(x3,((),())))))) x4).bind fun (JQ:PUnit×List α)=>
          some (((),JQ.2))
         else
          some (((),x4))
      else
       (nH g x1 x2 x3 x4 n ((x1,x2))).bind fun (eu:Int)=>
       bif bif decide (eu<x2) then decide (x2< (Go.IntKind.wrap .i64 ((Go.IntKind.wrap .i64 ((Go.IntKind.wrap .i64 (aD Go.IntKind.u64 (Go.IntKind.wrap .u64 (Go.IntKind.wrap .i64 (x1+x3))) ((1:Int))))+x2))-eu))) else false then
        (ro (((),(eu,(x2,(Go.IntKind.wrap .i64 ((Go.IntKind.wrap .i64 ((Go.IntKind.wrap .i64 (aD Go.IntKind.u64 (Go.IntKind.wrap .u64 (Go.IntKind.wrap .i64 (x1+x3))) ((1:Int))))+x2))-eu),((),())))))) x4).bind fun (wP:PUnit×List α)=>
        bif bif decide (x1<eu) then decide (eu< (Go.IntKind.wrap .i64 (aD Go.IntKind.u64 (Go.IntKind.wrap .u64 (Go.IntKind.wrap .i64 (x1+x3))) ((1:Int))))) else false then
         (S g (((),(x1,(eu,(Go.IntKind.wrap .i64 (aD Go.IntKind.u64 (Go.IntKind.wrap .u64 (Go.IntKind.wrap .i64 (x1+x3))) ((1:Int))),((),())))))) wP.2).bind fun (A9:PUnit×List α)=>
         bif bif decide ((Go.IntKind.wrap .i64 (aD Go.IntKind.u64 (Go.IntKind.wrap .u64 (Go.IntKind.wrap .i64 (x1+x3))) ((1:Int))))< (Go.IntKind.wrap .i64 ((Go.IntKind.wrap .i64 ((Go.IntKind.wrap .i64 (aD Go.IntKind.u64 (Go.IntKind.wrap .u64 (Go.IntKind.wrap .i64 (x1+x3))) ((1:Int))))+x2))-eu))) then decide ((Go.IntKind.wrap .i64 ((Go.IntKind.wrap .i64 ((Go.IntKind.wrap .i64 (aD Go.IntKind.u64 (Go.IntKind.wrap .u64 (Go.IntKind.wrap .i64 (x1+x3))) ((1:Int))))+x2))-eu))<x3) else false then
          (S g (((),(Go.IntKind.wrap .i64 (aD Go.IntKind.u64 (Go.IntKind.wrap .u64 (Go.IntKind.wrap .i64 (x1+x3))) ((1:Int))),(Go.IntKind.wrap .i64 ((Go.IntKind.wrap .i64 ((Go.IntKind.wrap .i64 (aD Go.IntKind.u64 (Go.IntKind.wrap .u64 (Go.IntKind.wrap .i64 (x1+x3))) ((1:Int))))+x2))-eu),(x3,((),())))))) A9.2).bind fun (JR:PUnit×List α)=>
          some (((),JR.2))
         else
          some (((),A9.2))
        else
         bif bif decide ((Go.IntKind.wrap .i64 (aD Go.IntKind.u64 (Go.IntKind.wrap .u64 (Go.IntKind.wrap .i64 (x1+x3))) ((1:Int))))< (Go.IntKind.wrap .i64 ((Go.IntKind.wrap .i64 ((Go.IntKind.wrap .i64 (aD Go.IntKind.u64 (Go.IntKind.wrap .u64 (Go.IntKind.wrap .i64 (x1+x3))) ((1:Int))))+x2))-eu))) then decide ((Go.IntKind.wrap .i64 ((Go.IntKind.wrap .i64 ((Go.IntKind.wrap .i64 (aD Go.IntKind.u64 (Go.IntKind.wrap .u64 (Go.IntKind.wrap .i64 (x1+x3))) ((1:Int))))+x2))-eu))<x3) else false then
          (S g (((),(Go.IntKind.wrap .i64 (aD Go.IntKind.u64 (Go.IntKind.wrap .u64 (Go.IntKind.wrap .i64 (x1+x3))) ((1:Int))),(Go.IntKind.wrap .i64 ((Go.IntKind.wrap .i64 ((Go.IntKind.wrap .i64 (aD Go.IntKind.u64 (Go.IntKind.wrap .u64 (Go.IntKind.wrap .i64 (x1+x3))) ((1:Int))))+x2))-eu),(x3,((),())))))) wP.2).bind fun (JU:PUnit×List α)=>
          some (((),JU.2))
         else
          some (((),wP.2))
       else
        bif bif decide (x1<eu) then decide (eu< (Go.IntKind.wrap .i64 (aD Go.IntKind.u64 (Go.IntKind.wrap .u64 (Go.IntKind.wrap .i64 (x1+x3))) ((1:Int))))) else false then
         (S g (((),(x1,(eu,(Go.IntKind.wrap .i64 (aD Go.IntKind.u64 (Go.IntKind.wrap .u64 (Go.IntKind.wrap .i64 (x1+x3))) ((1:Int))),((),())))))) x4).bind fun (Ba:PUnit×List α)=>
         bif bif decide ((Go.IntKind.wrap .i64 (aD Go.IntKind.u64 (Go.IntKind.wrap .u64 (Go.IntKind.wrap .i64 (x1+x3))) ((1:Int))))< (Go.IntKind.wrap .i64 ((Go.IntKind.wrap .i64 ((Go.IntKind.wrap .i64 (aD Go.IntKind.u64 (Go.IntKind.wrap .u64 (Go.IntKind.wrap .i64 (x1+x3))) ((1:Int))))+x2))-eu))) then decide ((Go.IntKind.wrap .i64 ((Go.IntKind.wrap .i64 ((Go.IntKind.wrap .i64 (aD Go.IntKind.u64 (Go.IntKind.wrap .u64 (Go.IntKind.wrap .i64 (x1+x3))) ((1:Int))))+x2))-eu))<x3) else false then
          (S g (((),(Go.IntKind.wrap .i64 (aD Go.IntKind.u64 (Go.IntKind.wrap .u64 (Go.IntKind.wrap .i64 (x1+x3))) ((1:Int))),(Go.IntKind.wrap .i64 ((Go.IntKind.wrap .i64 ((Go.IntKind.wrap .i64 (aD Go.IntKind.u64 (Go.IntKind.wrap .u64 (Go.IntKind.wrap .i64 (x1+x3))) ((1:Int))))+x2))-eu),(x3,((),())))))) Ba.2).bind fun (JV:PUnit×List α)=>
          some (((),JV.2))
         else
          some (((),Ba.2))
        else
         bif bif decide ((Go.IntKind.wrap .i64 (aD Go.IntKind.u64 (Go.IntKind.wrap .u64 (Go.IntKind.wrap .i64 (x1+x3))) ((1:Int))))< (Go.IntKind.wrap .i64 ((Go.IntKind.wrap .i64 ((Go.IntKind.wrap .i64 (aD Go.IntKind.u64 (Go.IntKind.wrap .u64 (Go.IntKind.wrap .i64 (x1+x3))) ((1:Int))))+x2))-eu))) then decide ((Go.IntKind.wrap .i64 ((Go.IntKind.wrap .i64 ((Go.IntKind.wrap .i64 (aD Go.IntKind.u64 (Go.IntKind.wrap .u64 (Go.IntKind.wrap .i64 (x1+x3))) ((1:Int))))+x2))-eu))<x3) else false then
          (S g (((),(Go.IntKind.wrap .i64 (aD Go.IntKind.u64 (Go.IntKind.wrap .u64 (Go.IntKind.wrap .i64 (x1+x3))) ((1:Int))),(Go.IntKind.wrap .i64 ((Go.IntKind.wrap .i64 ((Go.IntKind.wrap .i64 (aD Go.IntKind.u64 (Go.IntKind.wrap .u64 (Go.IntKind.wrap .i64 (x1+x3))) ((1:Int))))+x2))-eu),(x3,((),())))))) x4).bind fun (bY:PUnit×List α)=>
          some (((),bY.2))
         else
          some (((),x4))
     else
      none)
include hc h3 h9 ET h21 EU hro hS
theorem sym:∀(g:Nat) (A U V B:List α),eY key U->eY key V->0<U.length->0<V.length->U.length+V.length<g->U.length+V.length<n->(A++(U++(V++B))).length<2^59->
 ∃W,eY key W/\dR key W (U++V)/\W.length=U.length+V.length/\S g ((),(A.length:Int),((A.length+U.length:Nat):Int),((A.length+U.length+V.length:Nat):Int),((),())) (A++(U++(V++B)))=some ((),A++(W++B))
 |0,_,_,_,_,_,_,_,_,h,_,_=>by omega
 |g+1,A,U,V,B,hU,hV,hu,hv,hg,hn,hb=>by
  have hb':=hb
  simp only[iP] at hb'
  rw[hS]
  by_cases u1:U.length=1
  ·obtain⟨x,rfl⟩:=List.length_eq_one_iff.1 u1
   obtain⟨V1,V2,rfl,e1,e2,e3⟩:=s3 hc h3 (n:=n) (g:=g) (A:=A) (B:=B) (x:=x) hV (by simp only[iP,List.length_cons,List.length_nil] at hb'⊢;omega) (by omega)
   have hw:eY key (V1++x::V2):=by
    have h1:=List.pairwise_append.1 hV
    refine eY.app h1.1 (List.pairwise_cons.2 ⟨fun b hb=>Int.not_lt.1 (e3 b hb),h1.2.1⟩) fun a ha b hb=> ?_
    rcases adf.1 hb with rfl|hb
    ·exact Int.le_of_lt (e2 a ha)
    ·exact h1.2.2 a ha b hb
   refine⟨V1++x::V2,hw, ?_,by simp only[iP,List.length_cons,List.length_nil];omega, ?_⟩
   ·have:dR key (V1++[x]) ([x]++V1):=dR.swap fun a ha b hb=>by rw[adu.1 hb];exact e2 a ha
    have:=this.app (dR.refl (key:=key) V2)
    simpa using this
   ·refine iT (by rw[wr (by omega) (by omega)];simp;omega) (bd (a:=((A.length+1+V1.length:Nat):Int)) ?_ ?_)
    ·rw[<-e1];simp
    ·refine bd (a:=((),A++(V1++x::(V2++B)))) ?_ ?_
     ·have:=fwd h9 (g:=g) (x:=x) (B:=V2++B) V1 A n (by simp only[iP,List.length_cons,List.length_nil] at hb'⊢;omega) (by simp only[iP] at hn;omega)
      rw[<-this];simp
     ·simp
  ·by_cases v1:V.length=1
   ·obtain⟨y,rfl⟩:=List.length_eq_one_iff.1 v1
    obtain⟨U1,U2,rfl,e1,e2,e3⟩:=s15 hc ET (n:=n) (g:=g) (A:=A) (B:=B) (y:=y) hU (by simp only[iP,List.length_cons,List.length_nil] at hb'⊢;omega) (by omega)
    have hw:eY key (U1++y::U2):=by
     have h1:=List.pairwise_append.1 hU
     refine eY.app h1.1 (List.pairwise_cons.2 ⟨fun b hb=>Int.le_of_lt (Int.not_le.1 (e3 b hb)),h1.2.1⟩) fun a ha b hb=> ?_
     rcases adf.1 hb with rfl|hb
     ·exact e2 a ha
     ·exact h1.2.2 a ha b hb
    have hl2:(U1++U2).length=U1.length+U2.length:=iP
    refine⟨U1++y::U2,hw, ?_,by simp only[iP,List.length_cons,List.length_nil];omega, ?_⟩
    ·have:dR key ([y]++U2) (U2++[y]):=dR.swap fun a ha b hb=>by rw[adu.1 ha];exact Int.not_le.1 (e3 b hb)
     have:=(dR.refl (key:=key) U1).app this
     simpa using this
    ·refine iF (by rw[wr (by omega) (by omega)];simp;omega) (iT (by rw[wr (by omega) (by omega)];simp;omega) (bd (a:=((A.length+U1.length:Nat):Int)) ?_ ?_))
     ·rw[<-e1];simp
     ·refine bd (a:=((),A++(U1++(y::(U2++B))))) ?_ ?_
      ·have hl2:(U1++U2).length=U1.length+U2.length:=iP
       have:=bwd h21 (g:=g) (x:=y) (A:=A++U1) _ U2 B n rfl (by simp only[iP,List.length_cons,List.length_nil] at hb'⊢;omega) (by omega)
       rw[show ((A.length+(U1++U2).length:Nat):Int)=(((A++U1).length+U2.length:Nat):Int) by simp only[iP];omega,show ((A.length+U1.length:Nat):Int)=((A++U1).length:Nat) by rw[iP]]
       simp only[acF] at this⊢
       exact this
      ·simp
   ·
    generalize hmid:(A.length+(A.length+U.length+V.length))/2=mid
    have key2:∀(lo hi:Nat),A.length<=lo->hi<=A.length+U.length->hi<=mid->mid<=lo+V.length->lo<=hi->(lo=A.length\/mid=lo+V.length)->(hi=A.length+U.length\/hi=mid)->
     ∃(s:Nat) (U1 U2 V1 V2:List α),nH g (A.length:Int) ((A.length+U.length:Nat):Int) ((A.length+U.length+V.length:Nat):Int) (A++(U++(V++B))) n ((lo:Int),(hi:Int))=some (s:Int)/\U=U1++U2/\V=V1++V2/\s=A.length+U1.length/\mid=s+V1.length/\
      (∀a∈U1,∀b∈V2,key a<=key b)/\(∀a∈V1,∀b∈U2,key a<key b):=by
     intro lo hi q1 q2 q3 q4 q5 q6 q7
     obtain⟨s,e1,e2,e3,e4,e5⟩:=s33 hc EU (g:=g) (n:=n) (A:=A) (U:=U) (V:=V) (B:=B) hmid.symm q1 q2 q3 q4 q5 hb hn
     have f1:∀a∈U.take (s-A.length),∀b∈V.drop (mid-s),key a<=key b:=fun a ha b hb=>by
      obtain⟨i,i1,i2⟩:=Vt ha
      obtain⟨j,j1,j2⟩:=Vu hb
      have hj:j<V.length:=by rw[afM] at j2;exact j2.1
      have hs:lo<s:=by clear e4 e5;omega
      obtain⟨u,v,f1,f2,f3⟩:=e4 hs
      have g1:=hU.le (i:=i) (j:=s-1-A.length) (by clear f1 f2 f3 e4 e5;omega) i2 f1
      have g2:=hV.le (i:=mid-s) (j:=j) j1 f2 j2
      exact Int.le_trans g1 (Int.le_trans f3 g2)
     have f2:∀a∈V.take (mid-s),∀b∈U.drop (s-A.length),key a<key b:=fun a ha b hb=>by
      obtain⟨i,i1,i2⟩:=Vt ha
      obtain⟨j,j1,j2⟩:=Vu hb
      have hj:j<U.length:=by rw[afM] at j2;exact j2.1
      have hs:s<hi:=by clear e4 e5;omega
      obtain⟨u,v,f1,f2,f3⟩:=e5 hs
      have g1:=hV.le (i:=i) (j:=mid-1-s) (by clear f1 f2 f3 e4 e5;omega) i2 f2
      have g2:=hU.le (i:=s-A.length) (j:=j) j1 f1 j2
      exact Int.lt_of_le_of_lt g1 (Int.lt_of_lt_of_le f3 g2)
     exact⟨s,U.take (s-A.length),U.drop (s-A.length),V.take (mid-s),V.drop (mid-s),e1,(aga (s-A.length) U).symm,(aga (mid-s) V).symm,by clear e4 e5;rw[ads,akc (by omega)];omega,by clear e4 e5;rw[ads,akc (by omega)];omega,f1,f2⟩
    have part:∀(A' X Y B':List α),eY key X->eY key Y->X.length+Y.length<g->X.length+Y.length<n->(A'++(X++(Y++B'))).length<2^59->∃W,eY key W/\dR key W (X++Y)/\W.length=X.length+Y.length/\
     ((0<X.length/\0<Y.length)->S g ((),(A'.length:Int),((A'.length+X.length:Nat):Int),((A'.length+X.length+Y.length:Nat):Int),((),())) (A'++(X++(Y++B')))=some ((),A'++(W++B')))/\(¬(0<X.length/\0<Y.length)->W=X++Y):=by
     intro A' X Y B' hX hY hg' hn' hb'
     by_cases hxy:0<X.length/\0<Y.length
     ·obtain⟨W,w1,w2,w3,w4⟩:=sym g A' X Y B' hX hY hxy.1 hxy.2 hg' hn' hb'
      exact⟨W,w1,w2,w3,fun _=>w4,fun h=>absurd hxy h⟩
     ·refine⟨X++Y, ?_,dR.refl _,by rw[iP],fun h=>absurd h hxy,fun _=>rfl⟩
      by_cases hX0:X.length=0
      ·rw[adK hX0];exact hY
      ·have:Y=[]:=adK (by omega)
       rw[this,aeX];exact hX
    have rest:∀(s:Nat) (U1 U2 V1 V2:List α),U=U1++U2->V=V1++V2->s=A.length+U1.length->mid=s+V1.length->(∀a∈U1,∀b∈V2,key a<=key b)->(∀a∈V1,∀b∈U2,key a<key b)->
     ∃W W1 D1 D2,eY key W/\dR key W (U++V)/\W.length=U.length+V.length/\
      (((bif decide ((s:Int)< ((A.length+U.length:Nat):Int)) then decide (((A.length+U.length:Nat):Int)< ((mid+(A.length+U.length)-s:Nat):Int)) else false)=true/\ro ((),(s:Int),((A.length+U.length:Nat):Int),((mid+(A.length+U.length)-s:Nat):Int),((),())) (A++(U++(V++B)))=some ((),D1))\/
        ((bif decide ((s:Int)< ((A.length+U.length:Nat):Int)) then decide (((A.length+U.length:Nat):Int)< ((mid+(A.length+U.length)-s:Nat):Int)) else false)=false/\A++(U++(V++B))=D1))/\
      (((bif decide ((A.length:Int)< (s:Int)) then decide ((s:Int)< (mid:Int)) else false)=true/\S g ((),(A.length:Int),(s:Int),(mid:Int),((),())) D1=some ((),D2))\/
        ((bif decide ((A.length:Int)< (s:Int)) then decide ((s:Int)< (mid:Int)) else false)=false/\D1=D2))/\
      (((bif decide ((mid:Int)< ((mid+(A.length+U.length)-s:Nat):Int)) then decide (((mid+(A.length+U.length)-s:Nat):Int)< ((A.length+U.length+V.length:Nat):Int)) else false)=true/\S g ((),(mid:Int),((mid+(A.length+U.length)-s:Nat):Int),((A.length+U.length+V.length:Nat):Int),((),())) D2=some ((),A++(W++B)))\/
        ((bif decide ((mid:Int)< ((mid+(A.length+U.length)-s:Nat):Int)) then decide (((mid+(A.length+U.length)-s:Nat):Int)< ((A.length+U.length+V.length:Nat):Int)) else false)=false/\D2=A++(W++B)))/\W1=D1:=by
     intro s U1 U2 V1 V2 eU eV es em F1 F2
     subst eU eV
     simp only[iP] at hb' hg hn hmid hu hv u1 v1
     have pU:=List.pairwise_append.1 hU
     have pV:=List.pairwise_append.1 hV
     obtain⟨W1,a1,a2,a3,a4,a5⟩:=part A U1 V1 (U2++(V2++B)) pU.1 pV.1 (by omega) (by omega) (by simp only[iP];omega)
     obtain⟨W2,b1,b2,b3,b4,b5⟩:=part (A++W1) U2 V2 B pU.2.1 pV.2.1 (by omega) (by omega) (by simp only[iP];omega)
     refine⟨W1++W2,_,A++(U1++(V1++(U2++(V2++B)))),A++(W1++(U2++(V2++B))), ?_, ?_,by simp only[iP];omega, ?_, ?_, ?_,rfl⟩
     ·refine eY.app a1 b1 fun a ha b hb=> ?_
      rcases agj.1 (a2.mem ha) with ha|ha<;>rcases agj.1 (b2.mem hb) with hb|hb
      ·exact pU.2.2 a ha b hb
      ·exact F1 a ha b hb
      ·exact Int.le_of_lt (F2 a ha b hb)
      ·exact pV.2.2 a ha b hb
     ·refine(a2.app b2).trans ?_
      have:=((dR.refl (key:=key) U1).app (dR.swap F2)).app (dR.refl (key:=key) V2)
      simpa using this
     ·by_cases hh:0<U2.length/\0<V1.length
      ·refine .inl ⟨Vw (by simp only[iP];omega) (by simp only[iP];omega), ?_⟩
       have:=hro (A++U1) U2 V1 (V2++B) hh.1 hh.2 (by simp only[iP];omega) (by omega)
       rw[show (s:Int)=((A++U1).length:Nat) by rw[iP];omega,show ((A.length+(U1++U2).length:Nat):Int)=(((A++U1).length+U2.length:Nat):Int) by simp only[iP];omega,
        show ((mid+(A.length+(U1++U2).length)-s:Nat):Int)=(((A++U1).length+U2.length+V1.length:Nat):Int) by simp only[iP];omega]
       simp only[acF] at this⊢
       exact this
      ·refine .inr ⟨Vx (by simp only[iP];omega), ?_⟩
       by_cases h0:U2.length=0
       ·rw[adK h0];simp
       ·have:V1=[]:=adK (by omega)
        rw[this];simp
     ·by_cases hh:0<U1.length/\0<V1.length
      ·refine .inl ⟨Vw (by omega) (by omega), ?_⟩
       rw[show (s:Int)=((A.length+U1.length:Nat):Int) by omega,show (mid:Int)=((A.length+U1.length+V1.length:Nat):Int) by omega]
       exact a4 hh
      ·exact .inr ⟨Vx (by omega),by rw[a5 hh];simp⟩
     ·by_cases hh:0<U2.length/\0<V2.length
      ·refine .inl ⟨Vw (by simp only[iP];omega) (by simp only[iP];omega), ?_⟩
       rw[show (mid:Int)=((A++W1).length:Nat) by rw[iP];omega,show ((mid+(A.length+(U1++U2).length)-s:Nat):Int)=(((A++W1).length+U2.length:Nat):Int) by simp only[iP];omega,
        show ((A.length+(U1++U2).length+(V1++V2).length:Nat):Int)=(((A++W1).length+U2.length+V2.length:Nat):Int) by simp only[iP];omega]
       have:=b4 hh
       simp only[acF] at this⊢
       exact this
      ·exact .inr ⟨Vx (by simp only[iP];omega),by rw[b5 hh];simp⟩
    have c1:((IntKind.wrap .i64 (((A.length+U.length:Nat):Int)-(A.length:Int)))==((1:Int)))=false:=by rw[wr (by omega) (by omega)];simp;omega
    have c2:((IntKind.wrap .i64 (((A.length+U.length+V.length:Nat):Int)-((A.length+U.length:Nat):Int)))==((1:Int)))=false:=by rw[wr (by omega) (by omega)];simp;omega
    have eN:IntKind.wrap .i64 ((mid:Int)+((A.length+U.length:Nat):Int))=((mid+(A.length+U.length):Nat):Int):=by rw[wr (by omega) (by omega)];omega
    have eM:=J7 (i:=A.length) (j:=A.length+U.length+V.length) (by omega)
    rw[hmid] at eM
    have eE:∀s:Nat,s<=mid+(A.length+U.length)->s<2^60->IntKind.wrap .i64 (((mid+(A.length+U.length):Nat):Int)-(s:Int))=((mid+(A.length+U.length)-s:Nat):Int):=fun s h1 h2=>by rw[wr (by omega) (by omega)];omega
    by_cases hmm:mid<A.length+U.length
    ·obtain⟨s,U1,U2,V1,V2,k1,k2,k3,k4,k5,k6,k7⟩:=key2 (mid+(A.length+U.length)-(A.length+U.length+V.length)) mid (by omega) (by omega) (by omega) (by omega) (by omega) (.inr (by omega)) (.inr rfl)
     obtain⟨W,W1,D1,D2,w1,w2,w3,H1,H2,H3,_⟩:=rest s U1 U2 V1 V2 k2 k3 k4 k5 k6 k7
     refine⟨W,w1,w2,w3,iF c1 (iF c2 (gT rfl ?_))⟩
     rw[eM,eN]
     refine iT (decide_eq_true (by omega)) ?_
     rw[eE (A.length+U.length+V.length) (by omega) (by omega)]
     refine bd k1 ?_
     (try dsimp only)
     rw[eE s (by omega) (by omega)]
     refine qx H1 ?_ (fun q1=> ?_)
     ·refine qx H2 ?_ (fun q2=> ?_)
      ·exact qx H3 rfl (fun q3=>by rw[<-q3])
      ·subst q2;exact qx H3 rfl (fun q3=>by rw[<-q3])
     ·subst q1
      refine qx H2 ?_ (fun q2=> ?_)
      ·exact qx H3 rfl (fun q3=>by rw[<-q3])
      ·subst q2;exact qx H3 rfl (fun q3=>by rw[<-q3])
    ·obtain⟨s,U1,U2,V1,V2,k1,k2,k3,k4,k5,k6,k7⟩:=key2 A.length (A.length+U.length) (by omega) (by omega) (by omega) (by omega) (by omega) (.inl rfl) (.inl rfl)
     obtain⟨W,W1,D1,D2,w1,w2,w3,H1,H2,H3,_⟩:=rest s U1 U2 V1 V2 k2 k3 k4 k5 k6 k7
     refine⟨W,w1,w2,w3,iF c1 (iF c2 (gT rfl ?_))⟩
     rw[eM,eN]
     refine iF (decide_eq_false (by omega)) (bd k1 ?_)
     (try dsimp only)
     rw[eE s (by omega) (by omega)]
     refine qx H1 ?_ (fun q1=> ?_)
     ·refine qx H2 ?_ (fun q2=> ?_)
      ·exact qx H3 rfl (fun q3=>by rw[<-q3])
      ·subst q2;exact qx H3 rfl (fun q3=>by rw[<-q3])
     ·subst q1
      refine qx H2 ?_ (fun q2=> ?_)
      ·exact qx H3 rfl (fun q3=>by rw[<-q3])
      ·subst q2;exact qx H3 rfl (fun q3=>by rw[<-q3])
end
end So
end
