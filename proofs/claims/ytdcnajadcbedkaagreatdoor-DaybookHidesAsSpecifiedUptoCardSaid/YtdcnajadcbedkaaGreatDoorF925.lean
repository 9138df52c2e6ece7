import Derived.Test.YtdcnajadcbedkaaGreatDoorF924
set_option linter.all false
open Go.IntKind (wrap)
section
open Go Go.Proofs aR
namespace Sh
set_option maxRecDepth 100000
attribute [local irreducible] jk
theorem aEj {n k:Nat}(h2:2<=k)(h:k<=2^40):∀(d j m:Nat),j+d=Nat.log2 (k-1)->d<m->Qa n ((k:Nat):Int) m ((2^j:Nat):Int)=some ((iZ k:Nat):Int):=by
 intro d;have hl:Nat.log2 (k-1)<41:=(Nat.log2_lt RS).2 RS;induction d with
 |zero=>
  intro j m hj hm;obtain⟨m,rfl⟩:∃m',m=m'+1:=⟨m-1,RS⟩;obtain rfl:j=Nat.log2 (k-1):=RS
  have h1:k-1<2^(Nat.log2 (k-1)+1):=Nat.lt_log2_self;have h3:2^Nat.log2 (k-1)<=k-1:=Nat.log2_self_le RS;rw[Nat.pow_succ] at h1;rw[aoz,gP RS RS,decide_eq_false RS];rfl
 |succ d ih=>
  intro j m hj hm;obtain⟨m,rfl⟩:∃m',m=m'+1:=⟨m-1,RS⟩;have h1:2^(j+1)<=k-1:=(Nat.le_log2 RS).1 RS;have h3:2^(j+1)=2*2^j:=by rw[Nat.pow_succ,uV]
  rw[aoz,gP RS RS,decide_eq_true RS,cond_true];have:=ih (j+1) m RS RS;rw[h3] at this;rw[show (2:Int)*((2^j:Nat):Int)=((2*2^j:Nat):Int) by omega];exact this
theorem VX {n k:Nat}(h2:2<=k)(h:k<=2^40)(hn:200<n):Gr n ((k:Nat):Int)=some ((iZ k:Nat):Int):=by have hl:Nat.log2 (k-1)<41:=(Nat.log2_lt RS).2 RS;rw[aDI];exact bs (aEj h2 h (Nat.log2 (k-1)) 0 n RS RS) rfl
theorem agf {n:Nat}(hn:200<n)(a b:au):DI n (a,b)=some (jk 31 [dH a,dH b]):=by
 have la:(dH a).length=16:=rfl;have lb:(dH b).length=16:=rfl;have le:∀d:au,(fC (dH d)).length=17:=fun d=>rfl;have hsz:jD fC [dH a,dH b]=34:=by show (fC (dH a)).length+((fC (dH b)).length+0)=34;rw[le,le]
 rw[ayY];refine bs (abq (n:=n) (t:=31) (ls:=[dH a,dH b]) (fun x hx=>?_) (by rw[hsz];decide) (by rw[hsz];omega) (by show 2<n;omega) RS (by show 2<2^62;decide)) rfl;rcases jd.1 hx with rfl|hx
 .omega
 .rw[jq.1 hx];omega
theorem aEk {l:List au}(h:l≠[])(hb:l.length<2^62):aH l (wrap .i64 ((l.length:Int)-1))=some (nS l)/\iQ (wrap .i64 ((l.length:Int)-1)) l.length=true/\List.take (Int.toNat (wrap .i64 ((l.length:Int)-1))) l=l.dropLast:=by
 have hp:=sw.2 h;rw[gP RS RS,show (l.length:Int)-1=((l.length-1:Nat):Int) by omega];refine⟨?_,?_,?_⟩
 .unfold aH nS;rw[if_pos ⟨RS,RS⟩,Int.toNat_natCast,List.getLast?_eq_getElem?];cases hq:l[l.length-1]? with
  |none=>exact absurd (List.getElem?_eq_none_iff.1 hq) RS|some x=>rfl
 .unfold iQ;exact decide_eq_true RS
 .rw[Int.toNat_natCast,List.dropLast_eq_take]
theorem aEl {N:Nat}(hN:200<N){leaf:au}:∀(g g':Nat)(i n:Int)(l:List au)(sh:Bool),n.toNat<=g->n.toNat<=g'->1<=n->n<=2^40->0<=i->i<n->l.length<2^62->
 ∃(d d':au) (l':List au) (b:Bool),F5 JG F6 leaf g i n l sh=some (d,(l',sh||b))/\KP N g' (leaf,(i,(n,l)))=some ⟨d', !b&& l'.isEmpty⟩/\(b=false->d'=d):=by
 intro g;induction g with
 |zero=>intro g' i n l sh h1 h2 h3;omega|succ g ih=>
  intro g' i n l sh h1 h2 h3 h4 h5 h6 hl;obtain⟨g',rfl⟩:∃m,g'=m+1:=⟨g'-1,RS⟩;unfold F5;rw[aEf];by_cases hn:n=1
  .subst hn;refine⟨leaf,leaf,l,false,?_,?_,fun _=>rfl⟩
   .rw[show ((1:Int)==1)=true from rfl,cond_true,Bool.or_false]
   .rw[show ((1:Int)==1)=true from rfl,cond_true];cases l with
    |nil=>rfl|cons x l=>rw[show ((((x::l).length:Nat):Int)==0)=false by simp;omega];rfl
  .have hn1:(n==1)=false:=by simpa using hn
   rw[hn1,cond_false,cond_false];obtain⟨m,rfl⟩:∃m:Nat,n=m:=⟨n.toNat,RS⟩;obtain⟨k1,k2⟩:=UK (n:=m) RS;have hS:F6 ((m:Nat):Int)=some ((iZ m:Nat):Int):=by unfold F6;rw[if_pos ⟨RS,h4⟩,Int.toNat_natCast]
   have hR:=VX (n:=N) (k:=m) RS RS hN;rw[hS,Option.bind_some];generalize iZ m=k at k1 k2 hR;by_cases h0:l=[]
   .subst h0;rw[show ((((([]:List au).length:Nat)):Int)==0)=true from rfl,cond_true];cases hik:decide (i< ((k:Nat):Int)) with
    |true=>have:=of_decide_eq_true hik;obtain⟨d,d',l',b,e1,_,_⟩:=ih g i ((k:Nat):Int) [] (sh||true) RS RS RS RS h5 this aD;rw[cond_true,show (([]:List au).dropLast)=[] from rfl,show (([]:List au).isEmpty)=true from rfl,e1,Option.bind_some];exact⟨jk 31 [dH d,dH (nS [])],_,l',true,by simp[JG],rfl,fun h=>dh⟩
    |false=>have:=of_decide_eq_false hik;rw[cond_false,gP RS RS,gP RS RS];obtain⟨d,d',l',b,e1,_,_⟩:=ih g (i-k) ((m:Int)-k) [] (sh||true) RS RS RS RS RS RS aD;rw[show (([]:List au).dropLast)=[] from rfl,show (([]:List au).isEmpty)=true from rfl,e1,Option.bind_some];exact⟨jk 31 [dH (nS []),dH d],_,l',true,by simp[JG],rfl,fun h=>dh⟩
   .have hem:l.isEmpty=false:=by cases l with
     |nil=>exact absurd rfl h0|cons x l=>rfl
    have hz:((((l.length:Nat)):Int)==0)=false:=(by have:=sw.2 h0;rw[beq_eq_false_iff_ne];omega);obtain⟨q1,q2,q3⟩:=aEk h0 hl;rw[hz,cond_false,hem,Bool.or_false];have hdl:l.dropLast.length<2^62:=(by rw[List.length_dropLast];omega);cases hik:decide (i< ((k:Nat):Int)) with
    |true=>have:=of_decide_eq_true hik;obtain⟨d,d',l',b,e1,e2,e3⟩:=ih g' i ((k:Nat):Int) l.dropLast sh RS RS RS RS h5 this hdl;rw[cond_true,e1,Option.bind_some];refine⟨jk 31 [dH d,dH (nS l)],jk 31 [dH d',dH (nS l)],l',b,rfl,bs hR (bs q1 ?_),fun h=>by rw[e3 h]⟩;rw[q2,cond_true,hik,cond_true];rw[<-q3] at e2;exact bs e2 (bs (agf hN _ _) rfl)
    |false=>have:=of_decide_eq_false hik;have w1:wrap .i64 (i-((k:Nat):Int))=i-((k:Nat):Int):=gP RS RS;have w2:wrap .i64 (((m:Nat):Int)-((k:Nat):Int))=((m:Nat):Int)-((k:Nat):Int):=gP RS RS;rw[cond_false,w1,w2];obtain⟨d,d',l',b,e1,e2,e3⟩:=ih g' (i-k) ((m:Int)-k) l.dropLast sh RS RS RS RS RS RS hdl;rw[e1,Option.bind_some];refine⟨jk 31 [dH (nS l),dH d],jk 31 [dH (nS l),dH d'],l',b,rfl,bs hR (bs q1 ?_),fun h=>by rw[e3 h]⟩;rw[q2,cond_true,hik,cond_false];rw[<-q3,<-w1,<-w2] at e2;exact bs e2 (bs (agf hN _ _) rfl)
theorem Ao (x y:au):yP x y=((x.b0==y.b0)&& ((x.b1==y.b1)&& ((x.b2==y.b2)&& ((x.b3==y.b3)&& ((x.b4==y.b4)&& ((x.b5==y.b5)&& ((x.b6==y.b6)&& ((x.b7==y.b7)&& ((x.b8==y.b8)&& ((x.b9==y.b9)&& ((x.b10==y.b10)&& ((x.b11==y.b11)&& ((x.b12==y.b12)&& ((x.b13==y.b13)&& ((x.b14==y.b14)&& ((x.b15==y.b15)&& true)))))))))))))))):=by
 cases x;cases y;kernel_rfl
theorem aEm {N:Nat}(hN:2^40<=N){leaf root:au}{i n:Int}{l:List au}(hl:l.length<2^62):∃b:Bool,Ea N (leaf,(i,(n,(l,root))))=some b/\KR N (leaf,(i,(n,(l,root))))=some b:=by
 have hm:Ea N (leaf,(i,(n,(l,root))))=zW leaf i n l root:=aCL N (leaf,(i,(n,(l,root))));suffices h:∃b:Bool,zW leaf i n l root=some b/\KR N (leaf,(i,(n,(l,root))))=some b by obtain⟨b,h1,h2⟩:=h;exact⟨b,hm.trans h1,h2⟩
 rw[aEg];unfold zW;rw[if_pos hl];unfold NP;have hc:(bif bif bif decide (n< (1:Int)) then true else decide (n> (1099511627776:Int)) then true else decide (i< (0:Int)) then true else decide (i>=n))=(decide (n<1)||decide (n>1099511627776)||decide (i<0)||decide (i>=n)):=by
  cases decide (n<1)<;>cases decide (n>1099511627776)<;>cases decide (i<0)<;>rfl
 rw[hc];cases he:(decide (n<1)||decide (n>1099511627776)||decide (i<0)||decide (i>=n)) with
 |true=>exact⟨false,rfl,rfl⟩|false=>
  simp only[sF,decide_eq_false_iff_not] at he;obtain⟨⟨⟨a1,a2⟩,a3⟩,a4⟩:=he;obtain⟨g,rfl⟩:∃g,N=g+1:=⟨N-1,RS⟩;obtain⟨d,d',l',b,e1,e2,e3⟩:=aEl (N:=g+1) (leaf:=leaf) RS n.toNat (g+1) i n l false (iR _) RS RS RS RS RS hl;have e2':KQ (g+1) (leaf,(i,(n,l)))=some ⟨d', !b&& l'.isEmpty⟩:=by unfold KQ;exact e2
  refine⟨yP d root&& !(false||b)&& l'.isEmpty,by rw[cond_false,e1];rfl,?_⟩;rw[cond_false];refine bs e2' ?_;congr 1;show (bif (!b&& l'.isEmpty) then _ else false)=_;cases b with
  |true=>cases yP d root<;>rfl|false=>
   rw[e3 rfl,Ao];cases l'.isEmpty
   .simp[Dr]
   .simp[Dr]
end Sh
end
section
open Go Go.Proofs aR
namespace Sh
set_option maxRecDepth 100000
attribute [local irreducible] jk
def agh (a b:au):au:=jk 31 [dH a,dH b]
def GH:au:=jk 32 []
theorem aEn {n:Nat}(a b:au)(hn:2^20<n):ZZ n (a,b)=some (agh a b):=by
 have la:(dH a).length=16:=rfl;have lb:(dH b).length=16:=rfl;have le:∀d:au,(fC (dH d)).length=17:=fun d=>rfl;have hsz:jD fC [dH a,dH b]=34:=by show (fC (dH a)).length+((fC (dH b)).length+0)=34;rw[le,le]
 rw[amu];refine bs (Oy (n:=n) (t:=31) (ls:=[dH a,dH b]) (fun x hx=>?_) (by rw[hsz];decide) (by rw[hsz];omega) (by show 2<n;omega) RS (by show 2<2^62;decide)) rfl;rcases jd.1 hx with rfl|hx
 .omega
 .rw[jq.1 hx];omega
theorem aEo {n:Nat}(a b:au)(hn:2^20<n):DI n (a,b)=some (agh a b):=agf RS a b
theorem aEp {n:Nat}(hn:2^20<n):O5 n ()=some GH:=by rw[aDF];exact bs (Oy (n:=n) (t:=32) (ls:=[]) (fun x hx=>Ce) aG (by show 0<n;omega) (by show 0<n;omega) RS aG) rfl
theorem aEq {n:Nat}(hn:2^20<n):O8 n ()=some GH:=by rw[aDJ];exact bs (abq (n:=n) (t:=32) (ls:=[]) (fun x hx=>Ce) aG (by show 1+0<n;omega) (by show 0<n;omega) RS aG) rfl
def wB:Nat->List au->au
 |0,_=>GH|g+1,l=>if l.length=0 then GH else if l.length=1 then l.headD GH else agh (wB g (l.take (iZ l.length))) (wB g (l.drop (iZ l.length)))
theorem ao7 {l:List au}(h:l.length=1):aH l 0=some (l.headD GH):=by
 cases l with
 |nil=>simp at h|cons a l=>unfold aH;rw[if_pos ⟨lM 0,aD⟩];rfl
theorem aEr {n:Nat}(hn:2^20<n):∀(g:Nat)(l:List au),l.length<g->l.length<=65536->D5 n g l=some (wB g l):=by
 intro g;induction g with
 |zero=>intro l h;omega|succ g ih=>
  intro l h hb;rw[aDG];unfold wB;by_cases h0:l.length=0
  .rw[if_pos h0,h0,show ((((0:Nat):Int))==0)=true from rfl,cond_true];exact bs (aEp hn) rfl
  .rw[if_neg h0,show ((l.length:Int)==0)=false by rw[beq_eq_false_iff_ne];omega,cond_false];by_cases h1:l.length=1
   .rw[if_pos h1,show ((l.length:Int)==1)=true by rw[beq_iff_eq];omega,cond_true];exact bs (ao7 h1) rfl
   .rw[if_neg h1,show ((l.length:Int)==1)=false by rw[beq_eq_false_iff_ne];omega,cond_false];obtain⟨k1,k2⟩:=UK (n:=l.length) RS;refine bs (UN RS RS) ?_;rw[Int.toNat_natCast,Int.toNat_natCast,z8 (i:=((iZ l.length:Nat):Int)) (n:=l.length) ⟨RS,RS⟩,z8 (i:=((iZ l.length:Nat):Int)) (n:=iZ l.length) ⟨RS,RS⟩,z8 (i:=(l.length:Int)) (n:=l.length) ⟨RS,RS⟩];refine gR rfl (bs (ih (l.take (iZ l.length)) wJ wJ) (gR rfl ?_));have hd:List.drop (iZ l.length) (List.take l.length l)=l.drop (iZ l.length):=(by rw[List.take_length]);refine bs (o:=D5 n g _) (a:=wB g (l.drop (iZ l.length))) ?_ (bs (aEn _ _ hn) rfl);exact(congrArg (D5 n g) hd).trans (ih (l.drop (iZ l.length)) uS uS)
theorem aEs {n:Nat}(hn:2^20<n):∀(g:Nat)(l:List au),l.length<g->l.length<=65536->KF n g l=some (wB g l):=by
 intro g;induction g with
 |zero=>intro l h;omega|succ g ih=>
  intro l h hb;rw[aDK];unfold wB;by_cases h0:l.length=0
  .rw[if_pos h0,h0,show ((((0:Nat):Int))==0)=true from rfl,cond_true];exact bs (aEq hn) rfl
  .rw[if_neg h0,show ((l.length:Int)==0)=false by rw[beq_eq_false_iff_ne];omega,cond_false];by_cases h1:l.length=1
   .rw[if_pos h1,show ((l.length:Int)==1)=true by rw[beq_iff_eq];omega,cond_true];exact bs (ao7 h1) rfl
   .rw[if_neg h1,show ((l.length:Int)==1)=false by rw[beq_eq_false_iff_ne];omega,cond_false];obtain⟨k1,k2⟩:=UK (n:=l.length) RS;refine bs (VX RS RS RS) ?_;rw[Int.toNat_natCast,z8 (i:=((iZ l.length:Nat):Int)) ⟨RS,RS⟩];exact gR rfl (bs (ih (l.take (iZ l.length)) wJ wJ) (gR rfl (bs (ih (l.drop (iZ l.length)) uS uS) (bs (aEo _ _ hn) rfl))))
theorem agi {n:Nat}{l:List au}(hn:2^20<n)(hb:l.length<=65536):BM n l=some (wB n l):=by unfold BM;exact aEr hn n l RS hb
theorem agj {n:Nat}{l:List au}(hn:2^20<n)(hb:l.length<=65536):D6 n l=some (wB n l):=by unfold D6;exact aEs hn n l RS hb
theorem ao8 {n:Nat}{l:List au}{d:au}(h:l.length<2^20):KG n (l,d)=some (l++[d]):=by rw[aDL];exact gR (q9 RS aG) (gR (q9 dz aG) (by rw[List.nil_append];rfl))
theorem agk (root:List au->Option au)(split:Int->Option Int)(g:Nat)(l:List au)(i:Int):yS root split (g+1) l i=bif Nat.beq l.length 1 then some [] else (split (l.length:Int)).bind fun k=>bif decide (0<=k/\k<=(l.length:Int)) then (bif decide (i<k) then (yS root split g (l.take k.toNat) i).bind fun p=>(root (l.drop k.toNat)).map fun d=>p++[d]else (yS root split g (l.drop k.toNat) (wrap .i64 (i-k))).bind fun p=>(root (l.take k.toNat)).map fun d=>p++[d]) else none:=rfl
theorem aEt {n:Nat}(hn:2^20<n):∀(g g':Nat)(l:List au)(i:Int),l.length<g->l.length<g'->1<=l.length->l.length<=65536->0<=i->i< (l.length:Nat)->∃p:List au,yS (BM n) (Bz n) g l i=some p/\KH n g' (l,i)=some p/\p.length<l.length+1:=by
 intro g;induction g with
 |zero=>intro g' l i h;omega|succ g ih=>
  intro g' l i h h' h1 hb i0 i1;obtain⟨g',rfl⟩:∃q,g'=q+1:=⟨g'-1,RS⟩;by_cases he:l.length=1
  .refine⟨[],(agk _ _ _ _ _).trans (iU (by rw[he];rfl) rfl),(af9 _ _ _ _).trans (iU (by rw[he];rfl) rfl),aD⟩
  .obtain⟨k1,k2⟩:=UK (n:=l.length) RS;have hne:Nat.beq l.length 1=false:=by
    cases hq:Nat.beq l.length 1 with
    |false=>rfl|true=>exact absurd (zo hq) he
   have hn1:((l.length:Int)==1)=false:=by rw[beq_eq_false_iff_ne];omega
   have hk:decide ((0:Int)<=((iZ l.length:Nat):Int)/\((iZ l.length:Nat):Int)<=(l.length:Int))=true:=decide_eq_true ⟨RS,RS⟩;have hin:iQ ((iZ l.length:Nat):Int) l.length=true:=z8 ⟨RS,RS⟩;cases hik:decide (i< ((iZ l.length:Nat):Int)) with
   |true=>
    have hik':=of_decide_eq_true hik;obtain⟨p,e1,e2,e3⟩:=ih g' (l.take (iZ l.length)) i wJ wJ wJ wJ i0 wJ;rw[nA] at e3;have e4:=agi (n:=n) (l:=l.drop (iZ l.length)) hn uS;have e5:=agj (n:=n) (l:=l.drop (iZ l.length)) hn uS;refine⟨p++[wB n (l.drop (iZ l.length))],?_,?_,xX⟩
    .refine(agk _ _ _ _ _).trans (lG hne (bs (UN RS RS) (iU hk (iU hik ?_))));rw[Int.toNat_natCast];refine bs e1 ?_;exact congrArg (fun o:Option au=>o.map fun d=>p++[d]) e4
    .refine(af9 _ _ _ _).trans (lG hn1 (bs (VX RS RS RS) (iU hik ?_)));rw[Int.toNat_natCast,hin];exact gR rfl (bs e2 (gR rfl (bs e5 (bs (ao8 RS) rfl))))
   |false=>
    have hik':=of_decide_eq_false hik;obtain⟨p,e1,e2,e3⟩:=ih g' (l.drop (iZ l.length)) (i-((iZ l.length:Nat):Int)) uS uS uS uS RS uS;rw[qD] at e3;have e4:=agi (n:=n) (l:=l.take (iZ l.length)) hn wJ;have e5:=agj (n:=n) (l:=l.take (iZ l.length)) hn wJ;refine⟨p++[wB n (l.take (iZ l.length))],?_,?_,xX⟩
    .refine(agk _ _ _ _ _).trans (lG hne (bs (UN RS RS) (iU hk (lG hik ?_))));rw[Int.toNat_natCast,gP (i:=i-((iZ l.length:Nat):Int)) RS RS];refine bs e1 ?_;exact congrArg (fun o:Option au=>o.map fun d=>p++[d]) e4
    .refine(af9 _ _ _ _).trans (lG hn1 (bs (VX RS RS RS) (lG hik ?_)));rw[Int.toNat_natCast,hin,gP (i:=i-((iZ l.length:Nat):Int)) RS RS];exact gR rfl (bs e2 (gR rfl (bs e5 (bs (ao8 RS) rfl))))
theorem aEu {n:Nat}{l:List au}{i:Int}(hn:2^20<n)(hb:l.length<=65536):∃(p:List au) (e:Int),Xs n (l,i)=some (p,e)/\O9 n (l,i)=some (⟨p,e⟩:jT)/\((i<0\/i>=(l.length:Nat))->e=1/\p=[])/\(¬(i<0\/i>=(l.length:Nat))->e=0)/\p.length<=65536:=by
 rw[aBy,aDM];unfold OD;by_cases h0:i<0
 .rw[decide_eq_true h0];exact⟨[],1,rfl,rfl,fun _=>⟨rfl,rfl⟩,fun h=>absurd (.inl h0) h,aD⟩
 .rw[decide_eq_false h0,Bool.false_or,cond_false];by_cases h1:i>=(l.length:Nat)
  .rw[decide_eq_true h1];exact⟨[],1,rfl,rfl,fun _=>⟨rfl,rfl⟩,fun h=>absurd (.inr h1) h,aD⟩
  .rw[decide_eq_false h1,cond_false,cond_false,decide_eq_true (show l.length<2^29 by omega),cond_true];obtain⟨p,e1,e2,e3⟩:=aEt hn (l.length+1) n l i RS RS RS hb RS RS;refine⟨p,0,by rw[e1];rfl,?_,fun h=>?_,fun _=>rfl,RS⟩
   .refine bs (o:=KI n (l,i)) (a:=p) ?_ rfl;unfold KI;exact e2
   .rcases h with h|h
    .exact absurd h h0
    .exact absurd h h1
end Sh
end
section
open Go Go.Proofs aR
namespace Sh
set_option maxRecDepth 100000
attribute [local irreducible] jk
def rY (ls:List (List Int)):Nat:=ls.foldr (fun l s=>l.length+s) 0
theorem VY {ls:List (List Int)}{i:Nat}{x:List Int}(h:ls[i]? =some x):rY (ls.drop i)=x.length+rY (ls.drop (i+1)):=by
 have hlt:=q8 h;rw[nY hlt];have:ls[i]=x:=by rw[fA hlt] at h;exact kP h
 rw[this];rfl
theorem aEv {u:Unit}{k:Int}(h0:0<=k)(h1:k<=2^40):JJ (u,k)=some []:=by unfold JJ F7;exact if_pos ⟨h0,h1⟩
theorem aEw {u:Unit}{k:Int}(h0:0<=k)(h1:k<=2^40):JK (u,k)=some []:=by unfold JK F7;exact if_pos ⟨h0,h1⟩
theorem aEx {n:Nat}{ls:List (List Int)}(hs:rY ls<2^28)(hl:ls.length<2^28)(hn:ls.length<n):Gs n ls=some ls.flatten:=by
 rw[aDO];have h3:∀(k i m:Nat)(c:Nat),i+k=ls.length->k<m->c+rY (ls.drop i)=rY ls->Qb n ls m ((c:Int),(i:Int))=some ((rY ls:Nat):Int):=by
  intro k;induction k with
  |zero=>intro i m c hi hm hc;obtain⟨m,rfl⟩:∃m',m=m'+1:=⟨m-1,RS⟩;rw[aoB,l5 RS];rw[nE RS] at hc;rw[<-hc];rfl
  |succ k ih=>
   intro i m c hi hm hc;obtain⟨m,rfl⟩:∃m',m=m'+1:=⟨m-1,RS⟩;have hlt:i<ls.length:=RS
   have hx:ls[i]? =some ls[i]:=fA hlt;have hsz:=VY hx;rw[aoB,iG hx,eH hx,fK RS,cond_true,Option.bind_some,Uy RS,decide_eq_false RS];exact ih (i+1) m (c+ls[i].length) RS RS RS
 have h11:∀(k i m:Nat)(a:List Int),i+k=ls.length->k<m->a.length+rY (ls.drop i)=rY ls->Qc n ls m (a,(i:Int))=some (a++(ls.drop i).flatten):=by
  intro k;induction k with
  |zero=>intro i m a hi hm hc;obtain⟨m,rfl⟩:∃m',m=m'+1:=⟨m-1,RS⟩;rw[aoC,l5 RS,nE RS,List.flatten_nil,jG];rfl
  |succ k ih=>
   intro i m a hi hm hc;obtain⟨m,rfl⟩:∃m',m=m'+1:=⟨m-1,RS⟩;have hlt:i<ls.length:=RS
   have hx:ls[i]? =some ls[i]:=fA hlt;have hsz:=VY hx;rw[aoC,iG hx,eH hx,fK RS,cond_true,Option.bind_some,q9 RS aG,cond_true];have h:=ih (i+1) m (a++ls[i]) RS RS uR;rw[fP] at h;rw[nY hlt,List.flatten_cons];exact h
 exact bs (h3 ls.length 0 n 0 RS hn aD) (bs (aEv RS RS) (bs (h11 ls.length 0 n [] RS hn aD) rfl))
theorem aEy {n:Nat}{ls:List (List Int)}(hs:rY ls<2^28)(hl:ls.length<2^28)(hn:ls.length<n):QP n ls=some ls.flatten:=by
 rw[aDR];have h3:∀(k i m:Nat)(c:Nat),i+k=ls.length->k<m->c+rY (ls.drop i)=rY ls->Qe n ls m ((c:Int),(i:Int))=some ((rY ls:Nat):Int):=by
  intro k;induction k with
  |zero=>intro i m c hi hm hc;obtain⟨m,rfl⟩:∃m',m=m'+1:=⟨m-1,RS⟩;rw[aoE,l5 RS];rw[nE RS] at hc;rw[<-hc];rfl
  |succ k ih=>
   intro i m c hi hm hc;obtain⟨m,rfl⟩:∃m',m=m'+1:=⟨m-1,RS⟩;have hlt:i<ls.length:=RS
   have hx:ls[i]? =some ls[i]:=fA hlt;have hsz:=VY hx;rw[aoE,iG hx,eH hx,fK RS,cond_true,Option.bind_some,Uy RS,decide_eq_false RS];exact ih (i+1) m (c+ls[i].length) RS RS RS
 have h11:∀(k i m:Nat)(a:List Int),i+k=ls.length->k<m->a.length+rY (ls.drop i)=rY ls->Qf n ls m (a,(i:Int))=some (a++(ls.drop i).flatten):=by
  intro k;induction k with
  |zero=>intro i m a hi hm hc;obtain⟨m,rfl⟩:∃m',m=m'+1:=⟨m-1,RS⟩;rw[aoF,l5 RS,nE RS,List.flatten_nil,jG];rfl
  |succ k ih=>
   intro i m a hi hm hc;obtain⟨m,rfl⟩:∃m',m=m'+1:=⟨m-1,RS⟩;have hlt:i<ls.length:=RS
   have hx:ls[i]? =some ls[i]:=fA hlt;have hsz:=VY hx;rw[aoF,iG hx,eH hx,fK RS,cond_true,Option.bind_some,q9 RS aG,cond_true];have h:=ih (i+1) m (a++ls[i]) RS RS uR;rw[fP] at h;rw[nY hlt,List.flatten_cons];exact h
 exact bs (h3 ls.length 0 n 0 RS hn aD) (bs (aEw RS RS) (bs (h11 ls.length 0 n [] RS hn aD) rfl))
theorem aEz {n:Nat}{l:List (List UInt8)}(hb:∀x∈l,x.length<2^29)(hlen:l.length<2^62)(hn:20<n):∀(k i m:Nat)(a:List Int),i+k=l.length->k<m->a.length+jD fC (l.drop i)<2^29->Qd n l m (a,(i:Int))=some (a++(l.drop i).flatMap fC):=by
 intro k;induction k with
 |zero=>intro i m a hi hm hc;obtain⟨m,rfl⟩:∃m',m=m'+1:=⟨m-1,RS⟩;rw[aoD,l5 RS,nE RS,List.flatMap_nil,jG];rfl
 |succ k ih=>
  intro i m a hi hm hc;obtain⟨m,rfl⟩:∃m',m=m'+1:=⟨m-1,RS⟩;have hlt:i<l.length:=RS
  have hx:l[i]? =some l[i]:=fA hlt;have hd:l.drop i=l[i]::l.drop (i+1):=nY hlt;rw[hd] at hc⊢;have hm':=hb l[i] (lq hlt);generalize l[i]=x at hx hc hm'⊢;rw[aoD,iG hx,eH hx,fK RS,cond_true];have hsz:jD fC (x::l.drop (i+1))=(fC x).length+jD fC (l.drop (i+1)):=rfl;have h:=ih (i+1) m (a++fC x) RS RS uR;rw[fP] at h;exact bs rfl (bs (amL hm' hn) (gR (l7 RS aG) h))
theorem aEA {n:Nat}{l:List (List UInt8)}(hb:∀x∈l,x.length<2^29)(hlen:l.length<2^62)(hn:20<n):∀(k i m:Nat)(a:List Int),i+k=l.length->k<m->a.length+jD fC (l.drop i)<2^29->K3 n l m (a,(i:Int))=some (a++(l.drop i).flatMap fC):=by
 intro k;induction k with
 |zero=>intro i m a hi hm hc;obtain⟨m,rfl⟩:∃m',m=m'+1:=⟨m-1,RS⟩;rw[VT,l5 RS,nE RS,List.flatMap_nil,jG];rfl
 |succ k ih=>
  intro i m a hi hm hc;obtain⟨m,rfl⟩:∃m',m=m'+1:=⟨m-1,RS⟩;have hlt:i<l.length:=RS
  have hx:l[i]? =some l[i]:=fA hlt;have hd:l.drop i=l[i]::l.drop (i+1):=nY hlt;rw[hd] at hc⊢;have hm':=hb l[i] (lq hlt);generalize l[i]=x at hx hc hm'⊢;rw[VT,iG hx,eH hx,fK RS,cond_true];have hsz:jD fC (x::l.drop (i+1))=(fC x).length+jD fC (l.drop (i+1)):=rfl;have h:=ih (i+1) m (a++fC x) RS RS uR;rw[fP] at h;exact bs rfl (bs (amM hm' hn) (gR (l7 RS aG) h))
theorem aEB {n:Nat}{l:List (List UInt8)}(hb:∀x∈l,x.length<2^29)(hs:jD fC l<2^28)(hl:l.length<2^20)(hn:l.length<n)(hn2:20<n):Pe n l=some (DT l):=by have h1:=xI (l.length:Int);rw[aDQ];refine bs (?_:_=some (DT l)) rfl;rw[aDP];exact bs (Ou (BI RS) hn2) (bs (aEz hb RS hn2 l.length 0 n _ RS hn LV) rfl)
theorem aEC {n:Nat}{l:List (List UInt8)}(hb:∀x∈l,x.length<2^29)(hs:jD fC l<2^28)(hl:l.length<2^20)(hn:l.length<n)(hn2:20<n):KD n l=some (DT l):=by have h1:=xI (l.length:Int);rw[aov];exact bs (Ov (BI RS) hn2) (bs (aEA hb RS hn2 l.length 0 n _ RS hn LV) rfl)
def oO (v:List Int)(a:List Attr):Prop:=v.length<=40/\a.length<=20/\∀x∈a,x.Name.length<=300/\x.S.length<=300
def xQ (e:Entry):Prop:=(rI e.ID/\rI e.jv/\rI e.gD/\rI e.iX/\rI e.From/\rI e.To/\rI e.j5)/\(∀x∈e.Vec,rI x)/\∀a∈e.aW,rI a.Kind/\rI a.N
def Lc (a:Attr):List Int:=[a.Kind,a.N]
def Qm (a:Attr):List (List UInt8):=[a.Name,a.S]
def uM (e:Entry):List Int:=([e.ID,e.jv,e.gD,e.iX,e.From,e.To,e.j5,((e.Vec.length:Nat):Int)]++e.Vec++[((e.aW.length:Nat):Int)])++e.aW.flatMap Lc
def BP (e:Entry):List (List UInt8):=e.aW.flatMap Qm
def rz (e:Entry):List Int:=DR (uM e)++DT (BP e)
theorem agl {U β:Type}{f:U->List β}(h:∀a,(f a).length=2):∀l:List U,(l.flatMap f).length=2*l.length
 | []=>rfl|a::l=>by rw[lu,eU,h,agl h l,List.length_cons];omega
theorem agm (e:Entry):(uM e).length=9+e.Vec.length+2*e.aW.length:=by unfold uM;rw[eU,agl (fun _=>rfl)];simp only[eU,List.length_cons,List.length_nil];omega
theorem agn (e:Entry):(BP e).length=2*e.aW.length:=agl (fun _=>rfl) _
theorem ao9 {e:Entry}(h:xQ e)(ht:oO e.Vec e.aW):∀x∈uM e,rI x:=by
 obtain⟨⟨h1,h2,h3,h4,h5,h6,h7⟩,h8,h9⟩:=h;obtain⟨t1,t2,_⟩:=ht;intro x hx;unfold uM at hx;rcases qF.1 hx with hx|hx
 .rcases qF.1 hx with hx|hx
  .rcases qF.1 hx with hx|hx
   .simp only[jd,List.not_mem_nil,or_false] at hx;rcases hx with rfl|rfl|rfl|rfl|rfl|rfl|rfl|rfl;all_goals first|assumption|exact BI RS
   .exact h8 x hx
  .rw[jq.1 hx];exact BI RS
 .obtain⟨a,ha,hx⟩:=List.mem_flatMap.1 hx;unfold Lc at hx;simp only[jd,List.not_mem_nil,or_false] at hx;rcases hx with rfl|rfl
  .exact(h9 a ha).1
  .exact(h9 a ha).2
theorem Ld {e:Entry}(ht:oO e.Vec e.aW):∀x∈BP e,x.length<=300:=by
 intro x hx;obtain⟨a,ha,hx⟩:=List.mem_flatMap.1 hx;unfold Qm at hx;simp only[jd,List.not_mem_nil,or_false] at hx;rcases hx with rfl|rfl
 .exact(ht.2.2 a ha).1
 .exact(ht.2.2 a ha).2
theorem apa {e:Entry}(ht:oO e.Vec e.aW):jD fC (BP e)<=310*(BP e).length:=Ko (b:=310) fun x hx=>by have:=Ow x;have:=Ld ht x hx;omega
theorem aED {e:Entry}(ht:oO e.Vec e.aW):(rz e).length<=2^15:=by unfold rz;have h1:=abo (l:=uM e);have h2:=abp (b:=300) (Ld ht);have h3:=agm e;have h4:=agn e;obtain⟨t1,t2,_⟩:=ht;rw[eU];omega
theorem aEE {n:Nat}{e:Entry}(hlen:e.aW.length<=20):∀(k i m:Nat)(a:List Int)(b:List (List UInt8)),i+k=e.aW.length->k<m->a.length<2^20->b.length<2^20->K7 n e m (a,(b,(i:Int)))=some (a++(e.aW.drop i).flatMap Lc,b++(e.aW.drop i).flatMap Qm):=by
 have key:∀(k i m:Nat)(a:List Int)(b:List (List UInt8)),i+k=e.aW.length->k<m->a.length+2*k<2^21->b.length+2*k<2^21->K7 n e m (a,(b,(i:Int)))=some (a++(e.aW.drop i).flatMap Lc,b++(e.aW.drop i).flatMap Qm):=by
  intro k;induction k with
  |zero=>intro i m a b hi hm ha hb;obtain⟨m,rfl⟩:∃m',m=m'+1:=⟨m-1,RS⟩;rw[aoG,l5 RS,nE RS,List.flatMap_nil,List.flatMap_nil,jG,jG];rfl
  |succ k ih=>
   intro i m a b hi hm ha hb;obtain⟨m,rfl⟩:∃m',m=m'+1:=⟨m-1,RS⟩;have hlt:i<e.aW.length:=RS
   have hx:e.aW[i]? =some e.aW[i]:=fA hlt;have hd:e.aW.drop i=e.aW[i]::e.aW.drop (i+1):=nY hlt;rw[hd];generalize e.aW[i]=x at hx⊢;rw[aoG,iG hx,eH hx,fK RS,cond_true];have h:=ih (i+1) m (a++[x.Kind,x.N]) (b++[x.Name,x.S]) RS RS QZ QZ;rw[fP,fP] at h;exact bs rfl (gR (l7 dz aG) (gR (l7 dz aG) h))
 intro k i m a b hi hm ha hb;exact key k i m a b hi hm RS RS
theorem aEF {n:Nat}{e:Entry}(hlen:e.aW.length<=20):∀(k i m:Nat)(a:List Int)(b:List (List UInt8)),i+k=e.aW.length->k<m->a.length+2*k<2^21->b.length+2*k<2^21->K4 n e m (a,(b,(i:Int)))=some (a++(e.aW.drop i).flatMap Lc,b++(e.aW.drop i).flatMap Qm):=by
 intro k;induction k with
 |zero=>intro i m a b hi hm ha hb;obtain⟨m,rfl⟩:∃m',m=m'+1:=⟨m-1,RS⟩;rw[VU,l5 RS,nE RS,List.flatMap_nil,List.flatMap_nil,jG,jG];rfl
 |succ k ih=>
  intro i m a b hi hm ha hb;obtain⟨m,rfl⟩:∃m',m=m'+1:=⟨m-1,RS⟩;have hlt:i<e.aW.length:=RS
  have hx:e.aW[i]? =some e.aW[i]:=fA hlt;have hd:e.aW.drop i=e.aW[i]::e.aW.drop (i+1):=nY hlt;rw[hd];generalize e.aW[i]=x at hx⊢;rw[VU,iG hx,eH hx,fK RS,cond_true];have h:=ih (i+1) m (a++[x.Kind,x.N]) (b++[x.Name,x.S]) RS RS QZ QZ;rw[fP,fP] at h;exact bs rfl (bs rfl (gR (l7 dz aG) (bs rfl (bs rfl (gR (l7 dz aG) h)))))
theorem aEG {n:Nat}{e:Entry}(h:xQ e)(ht:oO e.Vec e.aW)(hn:2^20<n):Pg n e=some (rz e):=by
 have h3:=agm e;have h4:=agn e;have h5:=apa ht;have ht':=ht;obtain⟨t1,t2,_⟩:=ht';have h6:=abo (l:=uM e);have h7:=abp (b:=300) (Ld ht);rw[aDS];refine bs (aEx (ls:=[[e.ID,e.jv,e.gD,e.iX,e.From,e.To,e.j5,((e.Vec.length:Nat):Int)],e.Vec,[((e.aW.length:Nat):Int)]]) (by simp[rY];omega) aD dz) ?_;refine bs (aEE (n:=n) (e:=e) t2 e.aW.length 0 n _ [] RS RS dz aD) ?_;rw[qd,List.nil_append];have e1:([[e.ID,e.jv,e.gD,e.iX,e.From,e.To,e.j5,((e.Vec.length:Nat):Int)],e.Vec,[((e.aW.length:Nat):Int)]]:List (List Int)).flatten++e.aW.flatMap Lc=uM e:=by unfold uM;simp
 rw[e1];refine bs (azG (l:=uM e) (ao9 h ht) RS RS RS) ?_;refine bs (aEB (l:=BP e) (fun x hx=>by have:=Ld ht x hx;omega) RS RS RS RS) ?_;have hc:=aEy (n:=n) (ls:=[DR (uM e),DT (BP e)]) (by simp[rY];omega) aD dz;rw[show ([DR (uM e),DT (BP e)]:List (List Int)).flatten=rz e by unfold rz;simp] at hc;exact bs hc rfl
theorem aEH {n:Nat}{e:Entry}(h:xQ e)(ht:oO e.Vec e.aW)(hn:2^20<n):DZ n e=some (rz e):=by have h3:=agm e;have h4:=agn e;have h5:=apa ht;have ht':=ht;obtain⟨t1,t2,_⟩:=ht';have h6:=abo (l:=uM e);have h7:=abp (b:=300) (Ld ht);rw[aow];refine gR (l7 dz aG) (gR (l7 dz aG) ?_);refine bs (aEF (n:=n) (e:=e) t2 e.aW.length 0 n _ [] RS RS dz dz) ?_;rw[qd,List.nil_append];refine bs (azH (l:=uM e) (ao9 h ht) RS RS RS) ?_;refine gR (l7 RS aG) ?_;refine bs (aEC (l:=BP e) (fun x hx=>by have:=Ld ht x hx;omega) RS RS RS RS) ?_;refine gR (l7 (by rw[List.nil_append];omega) aG) ?_;unfold rz;rw[List.nil_append];rfl
end Sh
end
section
open Go Go.Proofs aR
namespace Sh
set_option maxRecDepth 100000
attribute [local irreducible] jk
def BQ:List (List (List UInt8))->Nat
 | []=>0|a::l=>a.length+BQ l
theorem aEI {n:Nat}{l:List (List (List UInt8))}(hb:l.length<2^20):∀(k i m s:Nat),i+k=l.length->k<m->s+BQ (l.drop i)<2^28->Qg n l m ((s:Int),(i:Int))=some ((s+BQ (l.drop i):Nat):Int):=by
 intro k;induction k with
 |zero=>intro i m s hi hm _;obtain⟨m,rfl⟩:∃m',m=m'+1:=⟨m-1,RS⟩;rw[aoH,l5 RS,nE RS];rfl
 |succ k ih=>
  intro i m s hi hm hc;obtain⟨m,rfl⟩:∃m',m=m'+1:=⟨m-1,RS⟩;have hlt:i<l.length:=RS
  have hx:l[i]? =some l[i]:=fA hlt;have hd:l.drop i=l[i]::l.drop (i+1):=nY hlt;rw[hd] at hc⊢;generalize l[i]=x at hx hc⊢;have e:BQ (x::l.drop (i+1))=x.length+BQ (l.drop (i+1)):=rfl;have h:=ih (i+1) m (s+x.length) RS RS RS;rw[aoH,iG hx,cond_true,fK RS];refine bs (eH hx) ?_;rw[Uy (show s+x.length<2^62 by omega)];refine lG (decide_eq_false RS) ?_;rw[h,e,oV]
theorem aEJ {n:Nat}{l:List (List (List UInt8))}(hb:l.length<2^20):∀(k i m:Nat)(a:List (List UInt8)),i+k=l.length->k<m->a.length+BQ (l.drop i)<2^28->Qh n l m (a,(i:Int))=some (a++(l.drop i).flatten):=by
 intro k;induction k with
 |zero=>intro i m a hi hm _;obtain⟨m,rfl⟩:∃m',m=m'+1:=⟨m-1,RS⟩;rw[aoI,l5 RS,nE RS,List.flatten_nil,jG];rfl
 |succ k ih=>
  intro i m a hi hm hc;obtain⟨m,rfl⟩:∃m',m=m'+1:=⟨m-1,RS⟩;have hlt:i<l.length:=RS
  have hx:l[i]? =some l[i]:=fA hlt;have hd:l.drop i=l[i]::l.drop (i+1):=nY hlt;rw[hd] at hc⊢;generalize l[i]=x at hx hc⊢;have e:BQ (x::l.drop (i+1))=x.length+BQ (l.drop (i+1)):=rfl;have h:=ih (i+1) m (a++x) RS RS uR;rw[aoI,iG hx,cond_true,fK RS,List.flatten_cons,<-fP];exact bs (eH hx) (gR (l7 RS aG) h)
theorem aEK {k:Nat}(h:k<2^28):JL ((),((k:Nat):Int))=some []:=by unfold JL;exact if_pos ⟨by show (0:Int)<=(k:Nat);omega,by show ((k:Nat):Int)<=2^40;omega⟩
theorem aEL {n:Nat}{l:List (List (List UInt8))}(hb:l.length<n)(hb2:l.length<2^20)(hs:BQ l<2^28):QQ n l=some l.flatten:=by rw[aDT];have h1:=aEI (n:=n) hb2 l.length 0 n 0 RS hb LV;have h2:=aEJ (n:=n) hb2 l.length 0 n [] RS hb (by rw[qd];show 0+_<_;omega);rw[qd] at h1 h2;rw[oW] at h1;exact bs h1 (bs (aEK hs) (bs h2 rfl))
def wC (x:au)(e:Entry):au:=jk 121 [dH x,l6 (encI 363),l6 (rz e)]
theorem apb (x:au){e:Entry}(ht:oO e.Vec e.aW):(∀y∈[dH x,l6 (encI 363),l6 (rz e)],y.length<2^28)/\jD fC [dH x,l6 (encI 363),l6 (rz e)]<=2^17:=by
 have h1:=aED ht;have h2:(encI 363).length=2:=G5
 have l1:(dH x).length=16:=rfl;have l2:(l6 (encI 363)).length=2:=by rw[DN,h2]
 have l3:(l6 (rz e)).length<=2^15:=by rw[DN];exact h1
 refine⟨fun y hy=>?_,?_⟩
 .simp only[jd,List.not_mem_nil,or_false] at hy;rcases hy with rfl|rfl|rfl<;>omega
 .have a1:=Ow (dH x);have a2:=Ow (l6 (encI 363));have a3:=Ow (l6 (rz e));show (fC _).length+((fC _).length+((fC _).length+0))<=_;omega
theorem agp {n:Nat}(x:au){e:Entry}(h:xQ e)(ht:oO e.Vec e.aW)(hn:2^20<n):Gt n (x,e)=some (wC x e):=by obtain⟨h1,h2⟩:=apb x ht;rw[aDV];refine bs (Ou (n:=n) (x:=363) ⟨aG,aG⟩ RS) (bs (aEG h ht hn) ?_);refine bs (o:=Pj n _) (a:=wC x e) ?_ rfl;refine(aDU n (dH x) [l6 (encI 363),l6 (rz e)]).trans ?_;refine bs (aEL (n:=n) (l:=[[dH x],[l6 (encI 363),l6 (rz e)]]) (by show 2<n;omega) (by show 2<2^20;decide) (by show 1+(2+0)<2^28;decide)) ?_;exact bs (Oy (n:=n) (t:=121) (ls:=[dH x,l6 (encI 363),l6 (rz e)]) h1 RS RS (by show 3<n;omega) RS (by show 3<2^62;decide)) rfl
theorem agq {n:Nat}(x:au){e:Entry}(h:xQ e)(ht:oO e.Vec e.aW)(hn:2^20<n):Gu n (x,e)=some (wC x e):=by obtain⟨h1,h2⟩:=apb x ht;rw[aDX];refine bs (Ov (n:=n) (x:=363) ⟨aG,aG⟩ RS) (bs (aEH h ht hn) ?_);refine bs (o:=Pk n _) (a:=wC x e) ?_ rfl;refine(aDW n (dH x) [l6 (encI 363),l6 (rz e)]).trans ?_;rw[q9 (by show 1+2<_;decide) aG,cond_true];exact bs (abq (n:=n) (t:=121) (ls:=[dH x,l6 (encI 363),l6 (rz e)]) h1 RS RS (by show 3<n;omega) RS (by show 3<2^62;decide)) rfl
end Sh
end
section
open Go Go.Proofs aR
namespace Sh
def findD (s:aM)(x:List UInt8):Int:=match s.Defs.findIdx? (fun d=>d.Name==x) with
 |some i=>(i:Int)|none=>-1
theorem aEM {n:Nat}{s:aM}{x:List UInt8}(h:s.Defs.length<n)(hb:s.Defs.length<2^62):OP n (s,x)=some (findD s x):=by
 have:=Oq (L:=fun m i=>P7 n s x m i) (l:=s.Defs) (fun d i r=>bif d.Name==x then some (.inr (i:Int)) else r) (some (.inl ()))
  (fun m i d hd=>by have hlt:=q8 hd;rw[aoj,iG hd,eH hd,fK RS];rfl)
  (fun m=>by rw[aoj,BF];rfl) h
 rw[aDc,this,Kn (fun d:Def=>d.Name==x) (fun i=>(Sum.inr (i:Int):PUnit⊕Int)) (.inl ())];unfold findD;cases s.Defs.findIdx? (fun d=>d.Name==x) with
 |none=>rfl|some j=>simp;rfl
theorem apc {n:Nat}{l:List (List UInt8)}{x:List UInt8}(h:l.length<n)(hb:l.length<2^62):Gp n (l,x)=some (l.any (· ==x)):=by
 have:=Oq (L:=fun m i=>P5 n l x m i) (l:=l) (fun d i r=>bif d==x then some (.inr true) else r) (some (.inl ()))
  (fun m i d hd=>by have hlt:=q8 hd;rw[aoc,iG hd,eH hd,fK RS];rfl)
  (fun m=>by rw[aoc,BF];rfl) h
 rw[aC3,this,Kn (fun d:List UInt8=>d==x) (fun i=>(Sum.inr true:PUnit⊕Bool)) (.inl ())];cases hf:l.findIdx? (fun d=>d==x) with
 |none=>
  rw[List.findIdx?_eq_none_iff] at hf;have:l.any (· ==x)=false:=by rw[List.any_eq_false];intro y hy;simpa using hf y hy
  rw[this];rfl
 |some j=>
  obtain⟨hj,h2,_⟩:=List.findIdx?_eq_some_iff_getElem.1 hf;have:l.any (· ==x)=true:=by rw[List.any_eq_true];exact⟨l[j],lq hj,h2⟩
  rw[this];rfl
theorem Le {U:Type}{c:Bool}{o:Option U}{d:U}(h:c=true->∃x,o=some x):∃x,kC c o d=some x:=by
 cases c
 .exact⟨d,rfl⟩
 .exact h rfl
theorem apd {n:Nat}{e:Entry}(h:e.aW.length<n)(hb:e.aW.length<2^62):∃b,Gn n e=some b:=by
 obtain⟨r,hr,_⟩:=abd (L:=fun m i=>Eb n e m i) (fun i=>0<=i/\i<=e.aW.length) (fun i=>(e.aW.length-i).toNat) (fun _=>True)
  (fun m i hi ih=>by rw[af6];refine jU (fun hc=>?_) (fun _=>iT trivial);have hc':decide (i< ((e.aW.length:Nat):Int))=true:=(by revert hc;cases decide (i< ((e.aW.length:Nat):Int))<;>simp);obtain⟨x,hx⟩:=ay0 hi.1 hc';refine eT ⟨x,hx,?_⟩;rw[hx];obtain⟨y,hy⟩:=Le (c:= !(decide ((((x.Name.length:Nat):Int))> (300:Int)))) (o:=some x) (d:=(⟨[],(0:Int),(0:Int),[]⟩:Attr)) (fun _=>⟨x,rfl⟩);refine eT ⟨y,hy,?_⟩;refine jU (fun _=>iT trivial) (fun _=>?_);have h3:=of_decide_eq_true hc';rw[IntKind.wrap_i64];have e2:(i+1+9223372036854775808)% 18446744073709551616-9223372036854775808=i+1:=RS;rw[e2];exact ih _ ⟨RS,RS⟩ RS) n (0:Int) ⟨RS,RS⟩ zl
 rw[an6,hr];cases r with
 |inl q=>exact⟨_,rfl⟩|inr q=>exact⟨_,rfl⟩
def rZ (s:aM)(n:Nat):Prop:=s.Defs.length<n/\s.Defs.length<2^62/\∀d∈s.Defs,d.Name.length<n/\d.Name.length<2^62/\d.Words.length<n/\d.Words.length<2^62/\∀w∈d.Words,w.length<n/\w.length<2^62
theorem ape {n:Nat}{x:List UInt8}(h:x.length<n)(hb:x.length<2^62)(hn:6<n):∃b:Bool,Ku n x=some b:=by
 obtain⟨r,hr⟩:=BG (L:=fun m (_:Unit) i=>Ee n x m i) (l:=x)
  (fun m i c _ hc ih=>by
    have hlt:=q8 hc;show∃r,Ee n x (m+1) (i:Int)=some r;rw[aod,iG hc,eH hc,fK RS,cond_true,Option.bind_some];cases (bif !(bif decide ((c.toNat:Int)>=(97:Int)) then decide ((c.toNat:Int)<=(122:Int)) else false) then bif (i:Int)==(0:Int) then true else !(bif bif decide ((c.toNat:Int)>=(48:Int)) then decide ((c.toNat:Int)<=(57:Int)) else false then true else (c.toNat:Int)==(95:Int)) else false)
    .exact ih ()
    .exact⟨_,rfl⟩)
  (fun m _ i hi=>by show∃r,Ee n x (m+1) (i:Int)=some r;rw[aod,l5 hi];exact⟨_,rfl⟩) x.length 0 n () RS h
 have hr':Ee n x n (0:Int)=some r:=hr;rw[aC4,hr'];cases r with
 |inl q=>obtain⟨b,hb'⟩:=Le (c:=bif decide ((x.length:Int)>=(1:Int)) then decide ((x.length:Int)<=(40:Int)) else false) (o:=Gp n (([[(97:UInt8),(108:UInt8),(108:UInt8)],[(97:UInt8),(110:UInt8),(100:UInt8)],[(104:UInt8),(97:UInt8),(115:UInt8)],[(105:UInt8),(110:UInt8)],[(110:UInt8),(111:UInt8),(116:UInt8)],[(111:UInt8),(114:UInt8)]],x))) (d:=false) (fun _=>⟨_,apc (show 6<n from hn) (show 6<2^62 by omega)⟩);rw[Option.bind_some];show∃b,Option.bind (kC _ _ _) _=some b;rw[hb'];exact⟨_,rfl⟩
 |inr q=>exact⟨q,rfl⟩
theorem aEN {n:Nat}{l:List (List UInt8)}(h:l.length<n)(hb:l.length<2^62)(hw:∀w∈l,w.length<n/\w.length<2^62)(hn:6<n):∃e:Int,OI n l=some e:=by
 rw[aC5];cases (bif decide ((l.length:Int)< (1:Int)) then true else decide ((l.length:Int)> (50:Int)))
 .obtain⟨r,hr⟩:=BG (L:=fun m (_:Unit) i=>Ef n l m i) (l:=l)
   (fun m i c _ hc ih=>by
     have hlt:=q8 hc;show∃r,Ef n l (m+1) (i:Int)=some r;obtain⟨b,hb'⟩:=ape (hw c (uW hc)).1 (hw c (uW hc)).2 hn;rw[aoe,iG hc,eH hc,fK RS,cond_true,Option.bind_some,hb'];cases b
     .exact⟨_,rfl⟩
     .exact ih ())
   (fun m _ i hi=>by show∃r,Ef n l (m+1) (i:Int)=some r;rw[aoe,l5 hi];exact⟨_,rfl⟩) l.length 0 n () RS h
  have hr':Ef n l n (0:Int)=some r:=hr;rw[cond_false,hr',Option.bind_some];cases r with
  |inr q=>exact⟨q,rfl⟩|inl q=>
   obtain⟨r,hr2⟩:=BG (L:=fun m (_:Unit) i=>Eh n l m (i+1)) (l:=l.tail)
    (fun m i c _ hc ih=>by
      have hc':l[i+1]? =some c:=(by rw[List.getElem?_tail] at hc;exact hc);have hlt:=q8 hc';show∃r,Eh n l (m+1) ((i:Int)+1)=some r;have ei:(i:Int)+1=((i+1:Nat):Int):=RS;have e0:wrap .i64 (((i+1:Nat):Int)-(1:Int))=(i:Int):=Au;have hi0:l[i]? =some l[i]:=fA RS;rw[ei,aof,iG hc',eH hc',fK RS,e0,eH hi0,cond_true,Option.bind_some,Option.bind_some];cases (Go.Op.bytesLess c l[i]||c==l[i])
      .have:=ih ();have e1:(((i+1:Nat):Int))+1=((i+1+1:Nat):Int):=RS;simp only[e1] at this;exact this
      .exact⟨_,rfl⟩)
    (fun m _ i hi=>by show∃r,Eh n l (m+1) ((i:Int)+1)=some r;have ei:(i:Int)+1=((i+1:Nat):Int):=RS;rw[ei,aof,l5 (by rw[List.length_tail] at hi;omega)];exact⟨_,rfl⟩) l.length 0 n () (by rw[List.length_tail];omega) h
   have hr2':Eh n l n (1:Int)=some r:=hr2;rw[Sum.elim_inl,hr2',Option.bind_some];cases r with
   |inl q=>exact⟨0,rfl⟩|inr q=>exact⟨q,rfl⟩
 .exact⟨_,rfl⟩
theorem l8 {U:Type}{c:Bool}{a b:Option U}(ha:∃r,a=some r)(hb:∃r,b=some r):∃r,(bif c then a else b)=some r:=by
 cases c
 .exact hb
 .exact ha
theorem aEO {n:Nat}{d:Def}{x:List UInt8}(h:d.Name.length<n/\d.Name.length<2^62/\d.Words.length<n/\d.Words.length<2^62/\∀w∈d.Words,w.length<n/\w.length<2^62)(hn:6<n):∃e:Int,OJ n (d,x)=some e:=by obtain⟨b,hb⟩:=ape h.1 h.2.1 hn;obtain⟨e,he⟩:=aEN h.2.2.1 h.2.2.2.1 h.2.2.2.2 hn;rw[aC7,hb];show∃e:Int,(bif !b then some (5:Int) else _)=some e;refine l8 ⟨_,rfl⟩ (l8 ⟨_,rfl⟩ (l8 (l8 ⟨_,rfl⟩ (l8 ⟨_,rfl⟩ ⟨_,rfl⟩)) (l8 (l8 ⟨_,rfl⟩ ?_) ⟨_,rfl⟩)));rw[he];exact⟨e,rfl⟩
theorem aEP {n:Nat}{s:aM}(h:rZ s n)(hn:6<n):∃e:Int,OL n s=some e:=by
 obtain⟨h1,h2,h3⟩:=h;obtain⟨b,hb⟩:=Le (c:= !(bif decide (s.j4< (1:Int)) then true else decide (s.j4> (32:Int)))) (o:=OG n s.lY) (d:=false) (fun _=>by rw[aC2];exact⟨_,rfl⟩);obtain⟨r,hr⟩:=BG (L:=fun m (x:List UInt8) i=>Ei n s m (x,i)) (l:=s.Defs)
  (fun m i d x hd ih=>by have hlt:=q8 hd;show∃r,Ei n s (m+1) (x,(i:Int))=some r;obtain⟨e,he⟩:=aEO (x:=x) (h3 d (uW hd)) hn;rw[aog,iG hd,eH hd,fK RS,cond_true,Option.bind_some,he];show∃r,(bif e !=(0:Int) then _ else _)=some r;exact l8 ⟨_,rfl⟩ (ih _))
  (fun m x i hi=>by show∃r,Ei n s (m+1) (x,(i:Int))=some r;rw[aog,l5 hi];exact⟨_,rfl⟩) s.Defs.length 0 n [] RS h1
 have hr':Ei n s n ([],(0:Int))=some r:=hr;rw[aC8];show∃e:Int,Option.bind (kC _ _ _) _=some e;rw[hb];show∃e:Int,(bif _ then some (1:Int) else _)=some e;refine l8 ⟨_,rfl⟩ (l8 ⟨_,rfl⟩ ?_);rw[hr',Option.bind_some];cases r with
 |inl q=>exact⟨0,rfl⟩|inr q=>exact⟨q,rfl⟩
theorem aEQ {n:Nat}{s:aM}{k:Int}(h:rZ s n):∃b:Bool,Kt n (s,k)=some b:=by
 obtain⟨h1,h2,h3⟩:=h;obtain⟨r,hr⟩:=BG (L:=fun m (_:Unit) i=>Ed n s k m i) (l:=s.Defs)
  (fun m i d _ hd ih=>by
    have hlt:=q8 hd;obtain⟨w1,w2,w3,w4,w5⟩:=h3 d (uW hd);show∃r,Ed n s k (m+1) (i:Int)=some r;obtain⟨r,hr⟩:=BG (L:=fun m (_:Unit) j=>Ec n s k (i:Int) d m j) (l:=d.Words)
     (fun m j w _ hw ih=>by have hlt:=q8 hw;show∃r,Ec n s k (i:Int) d (m+1) (j:Int)=some r;rw[an9,iG hw,eH hw,fK RS,cond_true,Option.bind_some];exact l8 ⟨_,rfl⟩ (ih ()))
     (fun m _ j hj=>by show∃r,Ec n s k (i:Int) d (m+1) (j:Int)=some r;rw[an9,l5 hj];exact⟨_,rfl⟩) d.Words.length 0 n () RS w3
    have hr':Ec n s k (i:Int) d n (0:Int)=some r:=hr;rw[aoa,iG hd,eH hd,fK RS,Option.bind_some,hr'];refine l8 (l8 ⟨_,rfl⟩ ?_) ⟨_,rfl⟩;cases r with
    |inl q=>exact ih ()|inr q=>exact⟨_,rfl⟩)
  (fun m _ i hi=>by show∃r,Ed n s k (m+1) (i:Int)=some r;rw[aoa,l5 hi];exact⟨_,rfl⟩) s.Defs.length 0 n () RS h1
 have hr':Ed n s k n (0:Int)=some r:=hr;rw[aC1,hr',Option.bind_some];cases r with
 |inl q=>exact⟨_,rfl⟩|inr q=>exact⟨q,rfl⟩
def aER (l:List Event)(n:Nat):Prop:=l.length<n/\l.length<2^62/\∀x∈l,x.aW.length<n/\x.aW.length<2^62
theorem aES {n:Nat}{l:List Event}{k:Int}(h:aER l n):∃b:Bool,Kr n (l,k)=some b:=by
 obtain⟨h1,h2,h3⟩:=h;obtain⟨r,hr⟩:=BG (L:=fun m (_:Unit) i=>y5 n l k m i) (l:=l)
  (fun m i x _ hx ih=>by have hlt:=q8 hx;obtain⟨a1,a2⟩:=h3 x (uW hx);show∃r,y5 n l k (m+1) (i:Int)=some r;rw[VQ,iG hx,eH hx,fK RS];refine l8 ?_ ⟨_,rfl⟩;rw[Option.bind_some,Option.bind_some];obtain⟨b,hb⟩:=apd (n:=n) (e:=⟨0,0,0,0,0,0,0,x.Vec,x.aW⟩) a1 a2;rw[hb];show∃r,(bif !b then _ else _)=some r;exact l8 ⟨_,rfl⟩ (ih ()))
  (fun m _ i hi=>by show∃r,y5 n l k (m+1) (i:Int)=some r;rw[VQ,l5 hi];exact⟨_,rfl⟩) l.length 0 n () RS h1
 have hr':y5 n l k n (0:Int)=some r:=hr;rw[an8,hr',Option.bind_some];cases r with
 |inl q=>exact⟨_,rfl⟩|inr q=>exact⟨q,rfl⟩
theorem aET {n:Nat}{b:Book}{d:Int}(h:b.Rows.length<n)(hb:b.Rows.length<2^62):∃r:Bool,OM n (b,d)=some r:=by
 have:=Oq (L:=fun m i=>P6 n b d m i) (l:=b.Rows) (fun x i r=>bif x.Entry.ID==d then some (.inr true) else r) (some (.inl ()))
  (fun m i x hx=>by have hlt:=q8 hx;rw[aoh,iG hx,eH hx,fK RS];rfl)
  (fun m=>by rw[aoh,BF];rfl) h
 rw[aDa,this,Kn (fun x:Row=>x.Entry.ID==d) (fun i=>(Sum.inr true:PUnit⊕Bool)) (.inl ())];cases b.Rows.findIdx? (fun x:Row=>x.Entry.ID==d)<;>exact⟨_,rfl⟩
theorem aEU {n:Nat}{l:List Int}(h:l.length<n)(hb:l.length<2^62):∃r:Bool,OO n l=some r:=by
 obtain⟨r,hr⟩:=BG (L:=fun m (_:Unit) i=>Ej n l m i) (l:=l)
  (fun m i x _ hx ih=>by have hlt:=q8 hx;show∃r,Ej n l (m+1) (i:Int)=some r;rw[aoi,iG hx,eH hx,fK RS];obtain⟨z,hz⟩:=Le (c:= !(decide (x< (-1000:Int)))) (o:=some x) (d:=(0:Int)) (fun _=>⟨_,rfl⟩);simp only[cond_true,Option.bind_some,hz];exact l8 ⟨_,rfl⟩ (ih ()))
  (fun m _ i hi=>by show∃r,Ej n l (m+1) (i:Int)=some r;rw[aoi,l5 hi];exact⟨_,rfl⟩) l.length 0 n () RS RS
 have hr':Ej n l n (0:Int)=some r:=hr;rw[aDb,hr',Option.bind_some];cases r<;>exact⟨_,rfl⟩
theorem aEV {n:Nat}{d:Def}{a:Attr}(h:d.Words.length<n)(hb:d.Words.length<2^62):∃r:Int,DU n (d,a)=some r:=by rw[aDd,apc h hb];exact l8 ⟨_,rfl⟩ (l8 (l8 ⟨_,rfl⟩ (l8 ⟨_,rfl⟩ ⟨_,rfl⟩)) (l8 ⟨_,rfl⟩ (l8 ⟨_,rfl⟩ ⟨_,rfl⟩)))
theorem aEW {s:aM}{x:List UInt8}(h:¬findD s x<0):∃(i:Nat) (d:Def),findD s x=(i:Int)/\s.Defs[i]? =some d:=by
 unfold findD at h⊢;cases hf:s.Defs.findIdx? (fun d=>d.Name==x) with
 |none=>rw[hf] at h;exact absurd aG h|some i=>obtain⟨hi,_⟩:=List.findIdx?_eq_some_iff_getElem.mp hf;exact⟨i,s.Defs[i],rfl,fA hi⟩
theorem aEX {n:Nat}{s:aM}{l:List Attr}(hs:rZ s n)(h:l.length<n)(hb:l.length<2^62):∃r:Int,OQ n (s,l)=some r:=by
 obtain⟨s1,s2,s3⟩:=hs;obtain⟨r,hr⟩:=BG (L:=fun m (_:Unit) i=>y7 n s l m i) (l:=l)
  (fun m i x _ hx ih=>by
    have hlt:=q8 hx;have ih':∃r,y7 n s l m ((i+1:Nat):Int)=some r:=ih ();show∃r,y7 n s l (m+1) (i:Int)=some r;rw[aok,iG hx,eH hx,fK RS];simp only[cond_true,Option.bind_some];rw[aEM s1 s2];show∃r,(bif decide (findD s x.Name<0) then some (Sum.inr (5:Int)) else _)=some r;by_cases hf:findD s x.Name<0
    .rw[decide_eq_true hf];exact⟨_,rfl⟩
    obtain⟨j,d,hj,hd⟩:=aEW hf;rw[decide_eq_false hf,hj,eH hd];have hv:∃v:Int,DU n (d,x)=some v:=(by obtain⟨_,_,w1,w2,_⟩:=s3 d (uW hd);exact aEV w1 w2);obtain⟨v,hv⟩:=hv;have tail:∃r,((DU n (d,x)).bind fun (dx:Int)=>bif dx !=(0:Int) then some (Sum.inr dx) else y7 n s l m ((i+1:Nat):Int))=some r:=(by rw[hv];exact l8 ⟨_,rfl⟩ ih');show∃r,(bif decide ((i:Int)>0) then _ else _)=some r;cases i with
    |zero=>exact tail|succ k=>have hk:k<l.length:=RS;have hy:l[k]? =some l[k]:=fA hk;have hw:wrap .i64 (((k+1:Nat):Int)-(1:Int))=((k:Nat):Int):=(by rw[show (((k+1:Nat):Int)-(1:Int))=((k:Nat):Int) by omega];rw[IntKind.wrap_i64];omega);rw[decide_eq_true (show ((k+1:Nat):Int)>0 by omega),hw,eH hy];show∃r,(bif _ then some (Sum.inr (6:Int)) else _)=some r;exact l8 ⟨_,rfl⟩ tail)
  (fun m _ i hi=>by show∃r,y7 n s l (m+1) (i:Int)=some r;rw[aok,l5 hi];exact⟨_,rfl⟩) l.length 0 n () RS RS
 have hr':y7 n s l n (0:Int)=some r:=hr;rw[aDe,hr',Option.bind_some];cases r<;>exact⟨_,rfl⟩
def GI (e:Entry):Prop:=(rI e.ID/\rI e.gD/\rI e.iX/\rI e.From/\rI e.To/\rI e.j5)/\(∀x∈e.Vec,rI x)/\∀a∈e.aW,rI a.Kind/\rI a.N
theorem GI.all {e:Entry}(h:GI e)(hv:rI e.jv):xQ e:=⟨⟨h.1.1,hv,h.1.2.1,h.1.2.2.1,h.1.2.2.2.1,h.1.2.2.2.2.1,h.1.2.2.2.2.2⟩,h.2.1,h.2.2⟩
def y9 (e:Entry)(n:Nat):Prop:=e.Vec.length<n/\e.Vec.length<2^62/\e.aW.length<n/\e.aW.length<2^62/\oO e.Vec e.aW/\GI e
theorem apf {n:Nat}{s:aM}{e:Entry}(hs:rZ s n)(h:y9 e n):∃r:Int,Kv n (s,e)=some r:=by obtain⟨h1,h2,h3,h4,_⟩:=h;obtain⟨b,hb⟩:=aEU h1 h2;obtain⟨r,hr⟩:=aEX hs h3 h4;rw[aDf,hb,hr];exact l8 ⟨_,rfl⟩ (l8 ⟨_,rfl⟩ (l8 ⟨_,rfl⟩ ⟨_,rfl⟩))
theorem apg {n:Nat}{e:Entry}(hb:e.aW.length<2^62):∀(m i:Nat),Eb n e m (i:Int)=some (.inl ())->∀j (hj:j<e.aW.length),i<=j->j<=20->e.aW[j].Name.length<=300/\e.aW[j].S.length<=300
 |0,i,h,_,_,_,_=>by rw[an5] at h;cases h|m+1,i,h,j,hj,hij,h20=>by
  rw[af6] at h;have hi:i<e.aW.length:=RS
  have e1:decide ((i:Int)< ((e.aW.length:Nat):Int))=true:=decide_eq_true RS;have e2:decide ((i:Int)<=(20:Int))=true:=decide_eq_true RS;have hx:e.aW[i]? =some e.aW[i]:=fA hi;rw[e1,e2,eH hx,fK RS] at h;simp only[cond_true,Option.bind_some] at h;cases hn:decide (((e.aW[i].Name.length:Nat):Int)> (300:Int)) with
  |true=>rw[hn] at h;simp only[Bool.not_true,kC,cond_false,cond_true,Option.bind_some] at h;cases h|false=>
   rw[hn] at h;simp only[Bool.not_false,kC,cond_true,cond_false,Option.bind_some] at h;cases hs:decide (((e.aW[i].S.length:Nat):Int)> (300:Int)) with
   |true=>rw[hs] at h;cases h|false=>
    rw[hs] at h;have h1:=of_decide_eq_false hn;have h2:=of_decide_eq_false hs;by_cases hji:j=i
    .subst hji;exact⟨RS,RS⟩
    .exact apg hb m (i+1) h j hj RS h20
theorem aph {n:Nat}{e:Entry}(hb:e.aW.length<2^62)(h:Gn n e=some true):oO e.Vec e.aW:=by
 rw[an6] at h;obtain⟨r,hr,h⟩:=iP.1 h;cases r with
 |inr b=>
  have:∀(m i:Nat) b,i<=2^62->Eb n e m (i:Int)=some (.inr b)->b=false:=by
   intro m;induction m with
   |zero=>intro i b _ h;rw[an5] at h;cases h|succ m ih=>
    intro i b hi h;rw[af6] at h;cases hc:(bif decide ((i:Int)< ((e.aW.length:Nat):Int)) then decide ((i:Int)<=(20:Int)) else false) with
    |false=>rw[hc] at h;cases h|true=>
     rw[hc] at h;have hlt:i<e.aW.length:=by
      cases hd:decide ((i:Int)< ((e.aW.length:Nat):Int)) with
      |false=>rw[hd] at hc;cases hc|true=>have:=of_decide_eq_true hd;omega
     rw[cond_true,fK RS] at h;obtain⟨x,_,h⟩:=iP.1 h;obtain⟨y,_,h⟩:=iP.1 h;revert h;cases (bif decide (((x.Name.length:Nat):Int)> (300:Int)) then true else decide (((y.S.length:Nat):Int)> (300:Int))) with
     |true=>intro h;cases h;rfl|false=>intro h;exact ih (i+1) b RS h
  have hb':=this n 0 b RS hr;subst hb';cases h
 |inl u=>
  have h':some (bif decide (((e.Vec.length:Nat):Int)<=(40:Int)) then decide (((e.aW.length:Nat):Int)<=(20:Int)) else false)=some true:=h;cases hv:decide (((e.Vec.length:Nat):Int)<=(40:Int)) with
  |false=>rw[hv] at h';cases h'|true=>rw[hv] at h';have h1:=of_decide_eq_true hv;have h2:=of_decide_eq_true (kP h');refine⟨RS,RS,fun x hx=>?_⟩;obtain⟨j,hj,rfl⟩:=G8.1 hx;exact apg hb n 0 hr j hj (oZ _) RS
theorem apj {n:Nat}{l:List Event}{k:Int}(hb:l.length<2^62)(ha:∀e∈l,e.aW.length<2^62):∀(m i:Nat),y5 n l k m (i:Int)=some (.inl ())->∀j (hj:j<l.length),i<=j->(j:Int)<=k->oO l[j].Vec l[j].aW
 |0,i,h,_,_,_,_=>by rw[an7] at h;cases h|m+1,i,h,j,hj,hij,hk=>by
  rw[VQ] at h;have hi:i<l.length:=RS
  have e1:decide ((i:Int)< (l.length:Int))=true:=decide_eq_true RS;have e2:decide ((i:Int)<=k)=true:=decide_eq_true RS;have hx:l[i]? =some l[i]:=fA hi;rw[e1,e2,eH hx,fK RS] at h;simp only[cond_true,Option.bind_some] at h;obtain⟨b,hf,h⟩:=iP.1 h;cases b with
  |false=>cases h|true=>
   by_cases hji:j=i
   .subst hji;exact aph (e:=⟨0,0,0,0,0,0,0,l[j].Vec,l[j].aW⟩) (ha _ (lq _)) hf
   .exact apj hb ha m (i+1) h j hj RS hk
theorem aEY {n:Nat}{l:List Event}{k:Int}(hb:l.length<2^62)(ha:∀e∈l,e.aW.length<2^62)(h:Kr n (l,k)=some true):∀e∈l,oO e.Vec e.aW:=by
 rw[an8] at h;obtain⟨r,hr,h⟩:=iP.1 h;cases r with
 |inr b=>
  have:∀(m i:Nat) b,i<=2^62->y5 n l k m (i:Int)=some (.inr b)->b=false:=by
   intro m;induction m with
   |zero=>intro i b _ h;rw[an7] at h;cases h|succ m ih=>
    intro i b hi h;rw[VQ] at h;cases hc:(bif decide ((i:Int)< (l.length:Int)) then decide ((i:Int)<=k) else false) with
    |false=>rw[hc] at h;cases h|true=>
     rw[hc] at h;have hlt:i<l.length:=by
      cases hd:decide ((i:Int)< (l.length:Int)) with
      |false=>rw[hd] at hc;cases hc|true=>have:=of_decide_eq_true hd;omega
     rw[cond_true,fK RS] at h;obtain⟨x,_,h⟩:=iP.1 h;obtain⟨y,_,h⟩:=iP.1 h;obtain⟨f,_,h⟩:=iP.1 h;revert h;cases f with
     |false=>intro h;cases h;rfl|true=>intro h;exact ih (i+1) b RS h
  have hb':=this n 0 b RS hr;subst hb';cases h
 |inl u=>have h':some (decide ((l.length:Int)<=k))=some true:=h;have h2:=of_decide_eq_true (kP h');intro x hx;obtain⟨j,hj,rfl⟩:=G8.1 hx;exact apj hb ha n 0 hr j hj (oZ _) RS
theorem aEZ {n:Nat}{z:Int}(hz0:0<=z)(hz1:z<2^64)(hn:20<n):∃r,DJ n n (z,[])=some r/\r.2.length<=9:=by
 refine abd (L:=fun m p=>DJ n m p) (fun p=>0<=p.1/\p.2.length<=9/\p.1<2^(64-7*p.2.length)) (fun p=>10-p.2.length) (fun r=>r.2.length<=9) ?_ n _ ⟨hz0,oZ _,hz1⟩ (by show 10-0<n;omega);rintro m ⟨x2,x3⟩ ⟨ha,hb,hc⟩ ih;dsimp only at ha hb hc ih⊢;rw[aa9];refine jU (fun hd=>?_) (fun _=>iT hb);have hd':=of_decide_eq_true hd;have hlt:x3.length<9:=by
  by_cases h:x3.length<9
  .exact h
  .have e:x3.length=9:=RS
   rw[e] at hc;have e2:(2:Int)^(64-7*9)=2:=aG
   rw[e2] at hc;exfalso;omega
 have aE0:(2:Int)^(64-7*x3.length)<=2^64:=by
  have e:(2:Int)^(64-7*x3.length)=((2^(64-7*x3.length):Nat):Int):=by rw[Int.natCast_pow];rfl
  have e2:(2:Int)^64=((2^64:Nat):Int):=rfl;rw[e,e2];exact Int.ofNat_le.2 (Nat.pow_le_pow_right aG RS)
 have aHr:x2<2^64:=Int.lt_of_lt_of_le hc aE0;have hw:wrap .u64 (Int.tdiv x2 128)=x2/128:=by rw[amv ha,IntKind.wrap_u64];omega
 rw[hw];refine vW aG (vW (q9 Lx aG) (vW aG ?_));refine ih _ ⟨Int.ediv_nonneg ha aG,?_,?_⟩ (by show 10-(x3++[_]).length<10-x3.length;rw[eU,List.length_cons,List.length_nil];omega)
 .show (x3++[_]).length<=9;rw[eU,List.length_cons,List.length_nil];omega
 .show x2/128<2^(64-7*(x3++[_]).length);rw[eU,List.length_cons,List.length_nil];have e:(2:Int)^(64-7*x3.length)=2^(64-7*(x3.length+1))*128:=by
   have:64-7*x3.length=(64-7*(x3.length+1))+7:=RS
   rw[this,Int.pow_add];rfl
  rw[e] at hc;exact Int.ediv_lt_of_lt_mul aG hc
theorem aE1 (x:Int):wrap .u64 x<2^64:=by rw[IntKind.wrap_u64];exact Int.emod_lt_of_pos _ aG
theorem VZ {n:Nat}(x:Int)(hn:20<n):∃r:List Int,QR n x=some r/\r.length<=10:=by
 rw[amh];refine jU (fun _=>?_) (fun _=>?_);all_goals
  generalize hz:wrap .u64 _=z;have hz0:0<=z:=by rw[<-hz];exact abe _
  have hz1:z<2^64:=by rw[<-hz];exact aE1 _
  obtain⟨r4,hr4,l4⟩:=aEZ hz0 hz1 hn;refine eT ⟨r4,hr4,?_⟩;refine vW (q9 Lx aG) (iT ?_);rw[eU,List.length_cons,List.length_nil];omega
theorem aE2 {n:Nat}{l:List UInt8}(hn:20<n)(hl:l.length<2^29):∃r:List Int,Gd n l=some r/\r.length<=l.length+10:=by rw[ami];obtain⟨r,hr,h⟩:=VZ (n:=n) (l.length:Int) hn;refine eT ⟨r,hr,vW (q9 (by rw[fF];omega) aG) (iT ?_)⟩;rw[eU,fF];omega
theorem aE3 {n:Nat}{l:List Int}(hl:l.length<2^20)(hn:l.length<n)(hn2:20<n):∃r:List Int,DC n l=some r/\r.length<=10+10*l.length:=by
 rw[amt];obtain⟨r2,hr2,l2⟩:=VZ (n:=n) (l.length:Int) hn2;have h3:∀(k i m:Nat)(a:List Int),i+k=l.length->k<m->a.length<=10+10*i->∃r,Km n l m (a,(i:Int))=some r/\r.length<=10+10*l.length:=by
  intro k;induction k with
  |zero=>intro i m a hi hm hc;obtain⟨m,rfl⟩:∃m',m=m'+1:=⟨m-1,RS⟩;rw[Uu,l5 RS];exact iT RS
  |succ k ih=>
   intro i m a hi hm hc;obtain⟨m,rfl⟩:∃m',m=m'+1:=⟨m-1,RS⟩;have hlt:i<l.length:=RS
   have hx:l[i]? =some l[i]:=fA hlt;rw[Uu,iG hx,eH hx,fK RS,cond_true,Option.bind_some];obtain⟨w,hw,lw⟩:=VZ (n:=n) l[i] hn2;refine eT ⟨w,hw,vW (q9 RS aG) ?_⟩;exact ih (i+1) m (a++w) RS RS uR
 obtain⟨r,hr,e⟩:=h3 l.length 0 n r2 RS hn RS;exact eT ⟨r2,hr2,eT ⟨r,hr,iT e⟩⟩
theorem aE4 {n:Nat}{l:List (List UInt8)}(hl:l.length<2^12)(hs:∀x∈l,x.length<=300)(hn:l.length<n)(hn2:20<n):∃r:List Int,KD n l=some r/\r.length<=10+310*l.length:=by
 rw[aov];obtain⟨r2,hr2,l2⟩:=VZ (n:=n) (l.length:Int) hn2;have h3:∀(k i m:Nat)(a:List Int),i+k=l.length->k<m->a.length<=10+310*i->∃r,K3 n l m (a,(i:Int))=some r/\r.length<=10+310*l.length:=by
  intro k;induction k with
  |zero=>intro i m a hi hm hc;obtain⟨m,rfl⟩:∃m',m=m'+1:=⟨m-1,RS⟩;rw[VT,l5 RS];exact iT RS
  |succ k ih=>
   intro i m a hi hm hc;obtain⟨m,rfl⟩:∃m',m=m'+1:=⟨m-1,RS⟩;have hlt:i<l.length:=RS
   have hx:l[i]? =some l[i]:=fA hlt;have aHs:=hs _ (lq hlt);rw[VT,iG hx,eH hx,fK RS,cond_true,Option.bind_some];obtain⟨w,hw,lw⟩:=aE2 (n:=n) (l:=l[i]) hn2 RS;refine eT ⟨w,hw,vW (q9 RS aG) ?_⟩;exact ih (i+1) m (a++w) RS RS uR
 obtain⟨r,hr,e⟩:=h3 l.length 0 n r2 RS hn RS;exact eT ⟨r2,hr2,eT ⟨r,hr,iT e⟩⟩
theorem aE5 {n:Nat}{e:Entry}(h:oO e.Vec e.aW)(hn:2^20<n):∃r:List Int,DZ n e=some r/\r.length<=2^15:=by
 obtain⟨h1,h2,h3⟩:=h;rw[aow];refine vW (q9 Lx aG) (vW (q9 (by simp only[eU,List.length_cons,List.length_nil];omega) aG) ?_);generalize hz:(([e.ID,e.jv,e.gD,e.iX,e.From,e.To,e.j5,((e.Vec.length:Nat):Int)]++e.Vec)++[((e.aW.length:Nat):Int)])=z;have aHt:z.length<=49:=by rw[<-hz];simp only[eU,List.length_cons,List.length_nil];omega
 have h4:∀(k i m:Nat)(a:List Int)(b:List (List UInt8)),i+k=e.aW.length->k<m->a.length<=49+2*i->b.length<=2*i->(∀x∈b,x.length<=300)->
  ∃r,K4 n e m (a,(b,(i:Int)))=some r/\(r.1.length<=89/\r.2.length<=40/\∀x∈r.2,x.length<=300):=by
  intro k;induction k with
  |zero=>intro i m a b hi hm ha hb hx;obtain⟨m,rfl⟩:∃m',m=m'+1:=⟨m-1,RS⟩;rw[VU,l5 RS];exact iT ⟨by show a.length<=89;omega,by show b.length<=40;omega,hx⟩
  |succ k ih=>
   intro i m a b hi hm ha hb hx;obtain⟨m,rfl⟩:∃m',m=m'+1:=⟨m-1,RS⟩;have hlt:i<e.aW.length:=RS
   have hg:e.aW[i]? =some e.aW[i]:=fA hlt;obtain⟨y1,y2⟩:=h3 _ (lq hlt);rw[VU,iG hg,eH hg,fK RS];simp only[cond_true,Option.bind_some];refine vW (q9 Lx aG) (vW (q9 Lx aG) ?_);refine ih (i+1) m _ _ RS RS (by rw[eU,List.length_cons,List.length_cons,List.length_nil];omega) (by rw[eU,List.length_cons,List.length_cons,List.length_nil];omega) (fun x hx'=>?_);rcases qF.1 hx' with hx'|hx'
   .exact hx x hx'
   .rcases jd.1 hx' with rfl|hx'
    .exact y1
    .rcases jd.1 hx' with rfl|hx'
     .exact y2
     .cases hx'
 obtain⟨r7,aE6,a7,b7,c7⟩:=h4 e.aW.length 0 n z [] RS RS RS aD (fun x hx=>absurd hx List.not_mem_nil);refine eT ⟨r7,aE6,?_⟩;obtain⟨r8,aE7,aHu⟩:=aE3 (n:=n) (l:=r7.1) RS RS RS;obtain⟨bG,aE8,aHv⟩:=aE4 (n:=n) (l:=r7.2) RS c7 RS RS;refine eT ⟨r8,aE7,vW (q9 RS aG) (eT ⟨bG,aE8,?_⟩)⟩;refine vW (q9 (by simp only[List.nil_append];omega) aG) (iT ?_);show ((([]:List Int)++r8)++bG).length<=2^15;rw[List.nil_append,eU];omega
theorem apk {n:Nat}{l:List Row}(ht:∀r∈l,oO r.Entry.Vec r.Entry.aW)(hn:2^20<n)(hb:l.length<=65536):KE n (l,l)=some true:=by
 rw[aDE];have e0:((l.length:Int) !=(l.length:Int))=false:=aD
 rw[e0,cond_false];have h4:∀(k i m:Nat),i+k=l.length->k<m->P9 n l l m (i:Int)=some (.inl ()):=by
  intro k;induction k with
  |zero=>intro i m hi hm;obtain⟨m,rfl⟩:∃m',m=m'+1:=⟨m-1,RS⟩;rw[aox,l5 RS];rfl
  |succ k ih=>
   intro i m hi hm;obtain⟨m,rfl⟩:∃m',m=m'+1:=⟨m-1,RS⟩;have hlt:i<l.length:=RS
   have hx:l[i]? =some l[i]:=fA hlt;rw[aox,iG hx,eH hx,fK RS];simp only[cond_true,Option.bind_some];have e1:(l[i].gu !=l[i].gu)=false:=aD
   rw[e1,Bool.not_false,cond_true];obtain⟨c,hc,_⟩:=aE5 (ht _ (lq hlt)) hn;have hs:O4 n (l[i].Entry,l[i].Entry)=some true:=by rw[aDD];refine bs hc (bs hc ?_);simp
   refine bs hs ?_;exact ih (i+1) m RS RS
 exact bs (h4 l.length 0 n RS RS) rfl
def za (id rA commit:Int)(r:Row):Row:=if r.Entry.ID=id/\r.Entry.From=rA/\r.gu=0/\r.Entry.j5<commit then ⟨r.Entry,commit⟩ else r
theorem set_mid {U:Type}(a:List U)(x y:U)(b:List U):bn (a++x::b) (a.length:Int) y=a++y::b:=by unfold bn;rw[show ((a.length:Int)).toNat=a.length from rfl,List.set_append_right _ _ (iR _),Nat.sub_self];rfl
theorem aE9 {n:Nat}{rows:List Row}{id rA commit:Int}(h:rows.length<n)(hb:rows.length<2^30):Kw n (rows,(id,(rA,commit)))=some (rows.map (za id rA commit)):=by
 have key:∀(b a:List Row)(m:Nat),a.length+b.length=rows.length->b.length<m->KV n id rA commit m ((a.length:Int),a++b)=some ((),a++b.map (za id rA commit)):=by
  intro b;induction b with
  |nil=>intro a m hl hm;obtain⟨m,rfl⟩:∃m',m=m'+1:=⟨m-1,by simp at hm;omega⟩;rw[aom,jG,BF];simp
  |cons x b ih=>
   intro a m hl hm;obtain⟨m,rfl⟩:∃m',m=m'+1:=⟨m-1,by simp at hm;omega⟩;simp only[List.length_cons] at hl hm;have hx:(a++x::b)[a.length]? =some x:=aD
   have hin:=Uw (q8 hx);have ih':=fun y=>ih (a++[y]) m dz RS;have e0:∀y,(((a++[y]).length:Nat):Int)=((a.length+1:Nat):Int):=fun y=>aD
   rw[aom,iG hx,cond_true,hin,cond_true];refine bs (eH hx) ?_;have imp:∀b:Bool,Nb b true=true:=fun b=>by cases b<;>rfl
   have hw:∀(c:Bool)(d:Row),kC c (aH (a++x::b) (a.length:Int)) d=some (bif c then x else d):=fun c d=>by rw[eH hx];exact Ot
   rw[imp,cond_true];refine bs (hw _ _) ?_;rw[imp,cond_true];refine bs (hw _ _) ?_;rw[imp,cond_true];refine bs (hw _ _) ?_;have hset:bn (a++x::b) (a.length:Int) (⟨x.Entry,commit⟩:Row)=a++[(⟨x.Entry,commit⟩:Row)]++b:=by rw[set_mid];simp
   by_cases c1:x.Entry.ID=id
   .have e1:(x.Entry.ID==id)=true:=(by simpa using c1);simp only[e1,cond_true];by_cases c2:x.Entry.From=rA
    .have e2:(x.Entry.From==rA)=true:=(by simpa using c2);simp only[e2,cond_true];by_cases c3:x.gu=0
     .have e3:(x.gu==(0:Int))=true:=(by simpa using c3);simp only[e3,cond_true];by_cases c4:x.Entry.j5<commit
      .rw[decide_eq_true c4,cond_true];refine bs (eH hx) ?_;rw[fK RS,hset,<-e0,ih'];simp[za,c1,c2,c3,c4]
      .rw[decide_eq_false c4,cond_false,fK RS,show a++x::b=a++[x]++b by simp,<-e0 x,ih'];simp[za,c1,c2,c3,c4]
     .have e3:(x.gu==(0:Int))=false:=(by simpa using c3);simp only[e3,cond_false];rw[fK RS,show a++x::b=a++[x]++b by simp,<-e0 x,ih'];simp[za,c3]
    .have e2:(x.Entry.From==rA)=false:=(by simpa using c2);simp only[e2,cond_false];rw[fK RS,show a++x::b=a++[x]++b by simp,<-e0 x,ih'];simp[za,c2]
   .have e1:(x.Entry.ID==id)=false:=(by simpa using c1);simp only[e1,cond_false];rw[fK RS,show a++x::b=a++[x]++b by simp,<-e0 x,ih'];simp[za,c1]
 rw[aDh,uK hb RS,cond_true];exact bs (key rows [] n aD h) rfl
theorem apl {U:Type}{l:List U}{i:Int}{x y:U}(h:y∈bn l i x):y∈l\/y=x:=by unfold bn at h;exact List.mem_or_eq_of_mem_set h
theorem xU {U:Type}(l:List U)(i:Int)(x:U):(bn l i x).length=l.length:=by unfold bn;simp
theorem aFa {n:Nat}{b:Book}{id i:Int}{x:Row}(hx:aH b.Rows i=some x):∀(k m:Nat)(out:List Row),k<out.length->k<m->k<2^62->(∀r∈out,r∈b.Rows/\r.Entry.ID=id)->
 ∃(k':Nat) (out':List Row),P8 n b id i m ((k:Int),out)=some ((k':Int),out')/\k'<out'.length/\out'.length=out.length/\∀r∈out',r∈b.Rows/\r.Entry.ID=id:=by
 intro k;induction k with
 |zero=>intro m out hk hm hb ho;obtain⟨m,rfl⟩:∃m',m=m'+1:=⟨m-1,RS⟩;exact⟨0,out,by rw[aon];rfl,hk,rfl,ho⟩
 |succ k ih=>
  intro m out hk hm hb ho;obtain⟨m,rfl⟩:∃m',m=m'+1:=⟨m-1,RS⟩;have hk1:k<out.length:=RS
  have hy:aH out ((k:Nat):Int)=some out[k]:=by rw[Gj,fA hk1]
  have hz:aH out (((k+1:Nat)):Int)=some out[k+1]:=by rw[Gj,fA hk]
  have hym:out[k]∈out:=lq hk1;generalize out[k]=y at hy hym;generalize out[k+1]=z at hz;have hw:wrap .i64 (((k+1:Nat):Int)-(1:Int))=((k:Nat):Int):=by rw[Ux RS hb];rfl
  rw[aon,decide_eq_true RS,cond_true,hw,Uw hk1,cond_true];by_cases c:y.Entry.From>x.Entry.From
  .obtain⟨k',out',h1,h2,h3,h4⟩:=ih m (bn out ((k+1:Nat):Int) y) (by rw[xU];exact hk1) RS RS (fun r hr=>by
    rcases apl hr with h|h
    .exact ho r h
    .rw[h];exact ho y hym)
   refine⟨k',out',?_,h2,by rw[h3,xU],h4⟩;refine bs hy (bs hx ?_);rw[decide_eq_true c,cond_true];refine bs hy ?_;rw[Uw hk,cond_true];exact bs hz h1
  .refine⟨k+1,out,?_,hk,rfl,ho⟩;refine bs hy (bs hx ?_);rw[decide_eq_false c,cond_false]
theorem aFb {n:Nat}{b:Book}{id:Int}(h:b.Rows.length<n)(hb:b.Rows.length<2^29):∃l:List Row,DV n (b,id)=some l/\l.length<=b.Rows.length/\∀r∈l,r∈b.Rows/\r.Entry.ID=id:=by
 have key:∀(k i m:Nat)(out:List Row),i+k=b.Rows.length->k<m->out.length<=i->(∀r∈out,r∈b.Rows/\r.Entry.ID=id)->∃q:PUnit×List Row,Gy n b id m (((),(i:Int)),out)=some q/\q.2.length<=b.Rows.length/\∀r∈q.2,r∈b.Rows/\r.Entry.ID=id:=by
  intro k;induction k with
  |zero=>intro i m out hi hm ho hr;obtain⟨m,rfl⟩:∃m',m=m'+1:=⟨m-1,RS⟩;exact⟨((),out),by rw[aoo,decide_eq_false RS];rfl,by show out.length<=_;omega,hr⟩
  |succ k ih=>
   intro i m out hi hm ho hr;obtain⟨m,rfl⟩:∃m',m=m'+1:=⟨m-1,RS⟩;have hlt:i<b.Rows.length:=RS
   have hx:aH b.Rows (i:Int)=some b.Rows[i]:=by rw[Gj,fA hlt]
   have hxm:b.Rows[i]∈b.Rows:=lq hlt;generalize b.Rows[i]=x at hx hxm;have hw:∀(c:Bool)(d:Row),kC c (aH b.Rows ((i:Nat):Int)) d=some (bif c then x else d):=fun c d=>by rw[hx];exact Ot
   have next:∀out':List Row,out'.length<=i+1->(∀r∈out',r∈b.Rows/\r.Entry.ID=id)->∃q:PUnit×List Row,Gy n b id m (((),wrap .i64 ((i:Int)+(1:Int))),out')=some q/\q.2.length<=b.Rows.length/\∀r∈q.2,r∈b.Rows/\r.Entry.ID=id:=fun out' h1 h2=>by rw[fK RS];exact ih (i+1) m out' RS RS h1 h2
   rw[aoo,decide_eq_true RS,cond_true];refine eT ⟨x,hx,?_⟩;refine eT ⟨_,hw _ _,?_⟩;refine jU (fun hid=>?_) (fun _=>next out RS hr);have hid:x.Entry.ID=id:=by
    cases h:(x.Entry.ID==id)
    .rw[h] at hid;cases hid
    .simpa using h
   refine eT ⟨x,hx,?_⟩;rw[uK (show out.length+[x].length<2^30 by simp;omega) RS,cond_true];obtain⟨k',out',h1,h2,h3,h4⟩:=aFa (n:=n) (b:=b) (id:=id) hx out.length n (out++[x]) aD RS RS (fun r hr'=>by
    rcases qF.1 hr' with h|h
    .exact hr r h
    .simp at h;rw[h];exact⟨hxm,hid⟩)
   refine eT ⟨_,h1,?_⟩;refine eT ⟨x,hx,?_⟩;dsimp only;rw[Uw h2,cond_true];refine eT ⟨out'[k'],by rw[Gj,fA h2],?_⟩;refine next _ (by rw[xU,h3];simp;omega) (fun r hr'=>?_);rcases apl hr' with h|h
   .exact h4 r h
   .rw[h];exact⟨hxm,hid⟩
 obtain⟨l,h1,h2,h3⟩:=key b.Rows.length 0 n [] RS h aD aD;exact⟨l.2,by rw[aDk];exact bs h1 rfl,h2,h3⟩
theorem Lf {U:Type}{P:U->Prop}{a k:Nat}{o:Option U}(ho:∃r,o=some r/\P r)(h:a<2^31)(hk:k<=2^12:=by omega):∃r,(bif cB a k then o else none)=some r/\P r:=by
 have:cB a k=true:=by
  unfold cB;have h1:a*k<=2^31*2^12:=Nat.mul_le_mul (Nat.le_of_lt h) hk;have e:(2:Nat)^31*2^12<=2^47:=aG
  rw[bf,decide_eq_true_iff,decide_eq_true_iff];exact⟨RS,RS⟩
 rw[this];exact ho
def Dd (c:Int)(r r':Row):Prop:=r'=r\/(r.gu=0/\r'=⟨r.Entry,c⟩)
theorem Dd.entry {c:Int}{r r':Row}(h:Dd c r r'):r'.Entry=r.Entry:=by rcases h with h| ⟨_,h⟩<;>rw[h]
theorem aFc (id rA c:Int)(r:Row):Dd c r (za id rA c r):=by
 unfold za;split
 .rename_i h;exact .inr ⟨h.2.2.1,rfl⟩
 .exact .inl rfl
theorem Dd.trans {c:Int}(hc:c≠0){r r1 r2:Row}(h:Dd c r r1)(g:Dd c r1 r2):Dd c r r2:=by
 rcases h with rfl| ⟨h1,rfl⟩
 .exact g
 .rcases g with rfl| ⟨g1,_⟩
  .exact .inr ⟨h1,rfl⟩
  .exact absurd g1 hc
structure CI (n:Nat)(e:Event)(mM:List Row)(v:Int)(i:Nat)(ver:Int)(rows added:List Row):Prop where
 f:∃f:Row->Row,rows=mM.map f/\∀r,Dd e.bS r (f r)
 v1:v<=ver
 v2:ver<=v+i
 len:added.length<=i
 add:∀r∈added,r.gu=0/\y9 r.Entry n/\r.Entry.ID=e.ID/\v<r.Entry.jv/\r.Entry.jv<=ver
theorem CI.length {n:Nat}{e:Event}{mM:List Row}{v:Int}{i:Nat}{ver:Int}{rows added:List Row}(h:CI n e mM v i ver rows added):rows.length=mM.length:=by obtain⟨f,rfl,_⟩:=h.f;simp
theorem CI.die {n:Nat}{e:Event}{mM:List Row}{v:Int}{i:Nat}{ver:Int}{rows added:List Row}(h:CI n e mM v i ver rows added)(hc:1<=e.bS)(rA:Int):CI n e mM v i ver (rows.map (za e.ID rA e.bS)) added:=by obtain⟨f,rfl,hf⟩:=h.f;exact {h with f:=⟨fun r=>za e.ID rA e.bS (f r),by rw[AA];rfl,fun r=>(hf r).trans RS (aFc _ _ _ _)⟩}
theorem CI.next {n:Nat}{e:Event}{mM:List Row}{v:Int}{i:Nat}{ver:Int}{rows added:List Row}(h:CI n e mM v i ver rows added):CI n e mM v (i+1) ver rows added:=
 {h with v2:=by have:=h.v2;omega,len:=by have:=h.len;omega}
theorem CI.push {n:Nat}{e:Event}{mM:List Row}{v:Int}{i:Nat}{ver:Int}{rows added:List Row}(h:CI n e mM v i ver rows added){y:Row}(h1:y.gu=0)(h2:y9 y.Entry n)(h3:y.Entry.ID=e.ID)(h4:y.Entry.jv=ver+1):CI n e mM v (i+1) (ver+1) rows (added++[y]):=by
 have v1:=h.v1;have v2:=h.v2;have len:=h.len;refine⟨h.f,RS,RS,xX,fun r hr=>?_⟩
 .rcases qF.1 hr with hr|hr
  .obtain⟨a1,a2,a3,a4,a5⟩:=h.add r hr;exact⟨a1,a2,a3,a4,RS⟩
  .rw[jq.1 hr];exact⟨h1,h2,h3,RS,RS⟩
theorem aFd {n:Nat}{x:Entry}{v f t c:Int}(h:y9 x n)(h1:rI f)(h2:rI t)(h3:rI c):y9 (⟨x.ID,v,x.gD,x.iX,f,t,c,x.Vec,x.aW⟩:Entry) n:=⟨h.1,h.2.1,h.2.2.1,h.2.2.2.1,h.2.2.2.2.1,⟨h.2.2.2.2.2.1.1,h.2.2.2.2.2.1.2.1,h.2.2.2.2.2.1.2.2.1,h1,h2,h3⟩,h.2.2.2.2.2.2⟩
theorem aFe {n:Nat}{b:Book}{e:Event}{l:List Row}{to:List dX}{more:Entry}{mM:List Row}{v:Int}(hn:2^20<n)(hl:l.length<=65536)(hlt:to.length=l.length)(hlr:∀r∈l,y9 r.Entry n/\r.Entry.ID=e.ID)(hto:∀d∈to,rI d.from_/\rI d.to)(hc2:rI e.bS)(hc:1<=e.bS)(hr0:mM.length<=65536)(hv0:0<=v)(hv1:v<2^50):
 ∀(k i m:Nat)(ver:Int)(rows added:List Row),i+k=l.length->k<m->CI n e mM v i ver rows added->
 ∃q:Int×(List Row)×List Row,xP n b e l to more m (ver,(rows,(added,(i:Int))))=some q/\CI n e mM v l.length q.1 q.2.1 q.2.2:=by
 intro k;induction k with
 |zero=>
  intro i m ver rows added hi hm h1;obtain⟨m,rfl⟩:∃m',m=m'+1:=⟨m-1,RS⟩;obtain rfl:i=l.length:=RS
  exact⟨_,by rw[af7,decide_eq_false RS];rfl,h1⟩
 |succ k ih=>
  intro i m ver rows added hi hm h1;obtain⟨m,rfl⟩:∃m',m=m'+1:=⟨m-1,RS⟩;have hrl:=h1.length;have v1:=h1.v1;have v2:=h1.v2;have hal:=h1.len;obtain⟨x,hx,hxm⟩:=DK (l:=l) (i:=i) RS;obtain⟨d,hd,apm⟩:=DK (l:=to) (i:=i) RS;have apn:=fun rA=>aE9 (n:=n) (rows:=rows) (id:=e.ID) (rA:=rA) (commit:=e.bS) RS RS;have nx:∀(ver:Int)(rows' tF:List Row),CI n e mM v (i+1) ver rows' tF->
   ∃q:Int×(List Row)×List Row,xP n b e l to more m (ver,(rows',(tF,wrap .i64 ((i:Int)+(1:Int)))))=some q/\CI n e mM v l.length q.1 q.2.1 q.2.2:=fun ver rows' tF k1=>by
   rw[fK RS];exact ih (i+1) m ver rows' tF RS RS k1
  have hw:wrap .i64 (ver+(1:Int))=ver+1:=gP RS RS;have grow:∀(c:Bool)(rows':List Row),CI n e mM v i ver rows' added->∃q:Int×(List Row)×List Row,(bif c then (aH to (i:Int)).bind fun (lZ:dX)=>(aH to (i:Int)).bind fun (fG:dX)=>bif cB (added.length+([(⟨(⟨x.Entry.ID,ver+1,x.Entry.gD,x.Entry.iX,lZ.from_,fG.to,e.bS,x.Entry.Vec,x.Entry.aW⟩:Entry),(0:Int)⟩:Row)].length)) 112 then xP n b e l to more m ((ver+1,(rows',(added++[(⟨(⟨x.Entry.ID,ver+1,x.Entry.gD,x.Entry.iX,lZ.from_,fG.to,e.bS,x.Entry.Vec,x.Entry.aW⟩:Entry),(0:Int)⟩:Row)],wrap .i64 ((i:Int)+(1:Int))))))else none else xP n b e l to more m ((ver,(rows',(added,wrap .i64 ((i:Int)+(1:Int)))))))=some q/\CI n e mM v l.length q.1 q.2.1 q.2.2:=by
   intro c rows' k1;refine jU (fun _=>?_) (fun _=>nx _ _ _ k1.next);refine eT ⟨d,hd,?_⟩;refine eT ⟨d,hd,?_⟩;exact Lf (nx _ _ _ (k1.push rfl (aFd (hlr x hxm).1 (hto d apm).1 (hto d apm).2 hc2) (hlr x hxm).2 rfl)) dz
  rw[af7,decide_eq_true RS,cond_true,hw];refine eT ⟨x,hx,?_⟩;refine eT ⟨d,hd,?_⟩;refine jU (fun _=>?_) (fun _=>?_)
  .refine eT ⟨d,hd,?_⟩;refine jU (fun _=>nx _ _ _ h1.next) (fun _=>?_);refine eT ⟨_,apn _,?_⟩;refine eT ⟨d,hd,?_⟩;refine eT ⟨d,hd,?_⟩;exact grow _ _ (h1.die hc _)
  .refine eT ⟨_,apn _,?_⟩;refine eT ⟨d,hd,?_⟩;refine eT ⟨d,hd,?_⟩;exact grow _ _ (h1.die hc _)
theorem aFf {n:Nat}{b:Book}{id V:Int}(h:b.Rows.length<n)(hb:b.Rows.length<2^62)(hV:∀r∈b.Rows,r.Entry.jv<=V)(aFg:0<=V):∃v:Int,Zs n (b,id)=some v/\0<=v/\v<=V/\∀r∈b.Rows,r.Entry.ID=id->r.Entry.jv<=v:=by
 have key:∀(k i m:Nat)(s:Int),i+k=b.Rows.length->k<m->0<=s->s<=V->(∀r∈b.Rows.take i,r.Entry.ID=id->r.Entry.jv<=s)->∃v:Int,KU n b id m (s,(i:Int))=some v/\0<=v/\v<=V/\∀r∈b.Rows,r.Entry.ID=id->r.Entry.jv<=v:=by
  intro k;induction k with
  |zero=>intro i m s hi hm h0 h1 h2;obtain⟨m,rfl⟩:∃m',m=m'+1:=⟨m-1,RS⟩;rw[aol,decide_eq_false RS];rw[rC RS] at h2;exact⟨s,rfl,h0,h1,h2⟩
  |succ k ih=>
   intro i m s hi hm h0 h1 h2;obtain⟨m,rfl⟩:∃m',m=m'+1:=⟨m-1,RS⟩;have hlt:i<b.Rows.length:=RS
   have hx:b.Rows[i]? =some b.Rows[i]:=fA hlt;have hxm:b.Rows[i]∈b.Rows:=lq hlt;have ht:b.Rows.take (i+1)=b.Rows.take i++[b.Rows[i]]:=by rw[List.take_add_one,hx];rfl
   have aHw:=hV _ hxm;rw[aol,iG hx,fK RS,cond_true];refine eT ⟨_,eH hx,?_⟩;refine jU (fun hid=>?_) (fun hid=>?_)
   .refine eT ⟨_,eH hx,?_⟩;refine ih (i+1) m _ RS RS (by unfold imax;split<;>omega) (by unfold imax;split<;>omega) (fun r hr hr2=>?_);rw[ht] at hr;rcases qF.1 hr with hr|hr
    .have:=h2 r hr hr2;unfold imax;split<;>omega
    .rw[jq.1 hr];unfold imax;split<;>omega
   .refine ih (i+1) m _ RS RS h0 h1 (fun r hr hr2=>?_);rw[ht] at hr;rcases qF.1 hr with hr|hr
    .exact h2 r hr hr2
    .rw[jq.1 hr] at hr2;rw[hr2] at hid;simp at hid
 obtain⟨v,h1,h2⟩:=key b.Rows.length 0 n 0 RS h (lM _) aFg aD;exact⟨v,by rw[aDg];exact bs h1 rfl,h2⟩
end Sh
end
