import Derived.Test.YtdcnajadcbedkaaGreatDoorF1024
set_option linter.all false
section
open Go Go.Proofs aQ
namespace Sh
set_option maxRecDepth 100000
attribute [local irreducible] j4
theorem aC9 {n k:Nat}(h2:2<=k)(h:k<=2^40):∀(d j m:Nat),j+d=Nat.log2 (k-1)->d<m->PZ n ((k:Nat):Int) m ((2^j:Nat):Int)=some ((eH k:Nat):Int):=by
 intro d;have hl:Nat.log2 (k-1)<41:=(Nat.log2_lt RS).2 RS;induction d with
 |zero=>
  intro j m hj hm;obtain⟨m,rfl⟩:∃m',m=m'+1:=⟨m-1,RS⟩;obtain rfl:j=Nat.log2 (k-1):=RS
  have h1:k-1<2^(Nat.log2 (k-1)+1):=Nat.lt_log2_self;have h3:2^Nat.log2 (k-1)<=k-1:=Nat.log2_self_le RS;rw[Nat.pow_succ] at h1;rw[aoh,gX RS RS,decide_eq_false RS];rfl
 |succ d ih=>
  intro j m hj hm;obtain⟨m,rfl⟩:∃m',m=m'+1:=⟨m-1,RS⟩;have h1:2^(j+1)<=k-1:=(Nat.le_log2 RS).1 RS;have h3:2^(j+1)=2*2^j:=by rw[Nat.pow_succ,uY]
  rw[aoh,gX RS RS,decide_eq_true RS,cond_true];have:=ih (j+1) m RS RS;rw[h3] at this;rw[show (2:Int)*((2^j:Nat):Int)=((2*2^j:Nat):Int) by omega];exact this
theorem afr {n k:Nat}(h2:2<=k)(h:k<=2^40)(hn:200<n):Kw n ((k:Nat):Int)=some ((eH k:Nat):Int):=by have hl:Nat.log2 (k-1)<41:=(Nat.log2_lt RS).2 RS;rw[aCY];exact bs (aC9 h2 h (Nat.log2 (k-1)) 0 n RS RS) rfl
theorem aDa {n:Nat}(hn:200<n)(a b:au):JL n (a,b)=some (j4 31 [dV a,dV b]):=by
 have la:(dV a).length=16:=rfl;have lb:(dV b).length=16:=rfl;have le:∀d:au,(fA (dV d)).length=17:=fun d=>rfl;have hsz:jA fA [dV a,dV b]=34:=by show (fA (dV a)).length+((fA (dV b)).length+0)=34;rw[le,le]
 rw[ayc];refine bs (aaV (n:=n) (t:=31) (ls:=[dV a,dV b]) (fun x hx=>?_) (by rw[hsz];decide) (by rw[hsz];omega) (by show 2<n;omega) RS (by show 2<2^62;decide)) rfl;rcases jr.1 hx with rfl|hx
 .omega
 .rw[iZ.1 hx];omega
theorem BG (x y:au):xB x y=((x.b0==y.b0)&& ((x.b1==y.b1)&& ((x.b2==y.b2)&& ((x.b3==y.b3)&& ((x.b4==y.b4)&& ((x.b5==y.b5)&& ((x.b6==y.b6)&& ((x.b7==y.b7)&& ((x.b8==y.b8)&& ((x.b9==y.b9)&& ((x.b10==y.b10)&& ((x.b11==y.b11)&& ((x.b12==y.b12)&& ((x.b13==y.b13)&& ((x.b14==y.b14)&& ((x.b15==y.b15)&& true)))))))))))))))):=by
 cases x;cases y;kernel_rfl
end Sh
end
section
open Go Go.Proofs aQ
namespace Sh
set_option maxRecDepth 100000
attribute [local irreducible] j4
def Vx (a b:au):au:=j4 31 [dV a,dV b]
def Gn:au:=j4 32 []
theorem aDb {n:Nat}(a b:au)(hn:2^20<n):JK n (a,b)=some (Vx a b):=by
 have la:(dV a).length=16:=rfl;have lb:(dV b).length=16:=rfl;have le:∀d:au,(fA (dV d)).length=17:=fun d=>rfl;have hsz:jA fA [dV a,dV b]=34:=by show (fA (dV a)).length+((fA (dV b)).length+0)=34;rw[le,le]
 rw[alE];refine bs (Od (n:=n) (t:=31) (ls:=[dV a,dV b]) (fun x hx=>?_) (by rw[hsz];decide) (by rw[hsz];omega) (by show 2<n;omega) RS (by show 2<2^62;decide)) rfl;rcases jr.1 hx with rfl|hx
 .omega
 .rw[iZ.1 hx];omega
theorem aDc {n:Nat}(a b:au)(hn:2^20<n):JL n (a,b)=some (Vx a b):=aDa RS a b
theorem aDd {n:Nat}(hn:2^20<n):Pb n ()=some Gn:=by rw[aCL];exact bs (Od (n:=n) (t:=32) (ls:=[]) (fun x hx=>BR) aK (by show 0<n;omega) (by show 0<n;omega) RS aK) rfl
theorem aDe {n:Nat}(hn:2^20<n):Po n ()=some Gn:=by rw[aCZ];exact bs (aaV (n:=n) (t:=32) (ls:=[]) (fun x hx=>BR) aK (by show 1+0<n;omega) (by show 0<n;omega) RS aK) rfl
def lq:Nat->List au->au
 |0,_=>Gn|g+1,l=>if l.length=0 then Gn else if l.length=1 then l.headD Gn else Vx (lq g (l.take (eH l.length))) (lq g (l.drop (eH l.length)))
theorem aom {l:List au}(h:l.length=1):aG l 0=some (l.headD Gn):=by
 cases l with
 |nil=>simp at h|cons a l=>unfold aG;rw[if_pos ⟨lN 0,aD⟩];rfl
theorem aDf {n:Nat}(hn:2^20<n):∀(g:Nat)(l:List au),l.length<g->l.length<=65536->DL n g l=some (lq g l):=by
 intro g;induction g with
 |zero=>intro l h;omega|succ g ih=>
  intro l h hb;rw[aCM];unfold lq;by_cases h0:l.length=0
  .rw[if_pos h0,h0,show ((((0:Nat):Int))==0)=true from rfl,cond_true];exact bs (aDd hn) rfl
  .rw[if_neg h0,show ((l.length:Int)==0)=false by rw[beq_eq_false_iff_ne];omega,cond_false];by_cases h1:l.length=1
   .rw[if_pos h1,show ((l.length:Int)==1)=true by rw[beq_iff_eq];omega,cond_true];exact bs (aom h1) rfl
   .rw[if_neg h1,show ((l.length:Int)==1)=false by rw[beq_eq_false_iff_ne];omega,cond_false];obtain⟨k1,k2⟩:=Oe (n:=l.length) RS;refine bs (Og RS RS) ?_;rw[Int.toNat_natCast,Int.toNat_natCast,zV (i:=((eH l.length:Nat):Int)) (n:=l.length) ⟨RS,RS⟩,zV (i:=((eH l.length:Nat):Int)) (n:=eH l.length) ⟨RS,RS⟩,zV (i:=(l.length:Int)) (n:=l.length) ⟨RS,RS⟩];refine gR rfl (bs (ih (l.take (eH l.length)) og og) (gR rfl ?_));have hd:List.drop (eH l.length) (List.take l.length l)=l.drop (eH l.length):=(by rw[List.take_length]);refine bs (o:=DL n g _) (a:=lq g (l.drop (eH l.length))) ?_ (bs (aDb _ _ hn) rfl);exact(congrArg (DL n g) hd).trans (ih (l.drop (eH l.length)) nO nO)
theorem aDg {n:Nat}(hn:2^20<n):∀(g:Nat)(l:List au),l.length<g->l.length<=65536->Ky n g l=some (lq g l):=by
 intro g;induction g with
 |zero=>intro l h;omega|succ g ih=>
  intro l h hb;rw[aC0];unfold lq;by_cases h0:l.length=0
  .rw[if_pos h0,h0,show ((((0:Nat):Int))==0)=true from rfl,cond_true];exact bs (aDe hn) rfl
  .rw[if_neg h0,show ((l.length:Int)==0)=false by rw[beq_eq_false_iff_ne];omega,cond_false];by_cases h1:l.length=1
   .rw[if_pos h1,show ((l.length:Int)==1)=true by rw[beq_iff_eq];omega,cond_true];exact bs (aom h1) rfl
   .rw[if_neg h1,show ((l.length:Int)==1)=false by rw[beq_eq_false_iff_ne];omega,cond_false];obtain⟨k1,k2⟩:=Oe (n:=l.length) RS;refine bs (afr RS RS RS) ?_;rw[Int.toNat_natCast,zV (i:=((eH l.length:Nat):Int)) ⟨RS,RS⟩];exact gR rfl (bs (ih (l.take (eH l.length)) og og) (gR rfl (bs (ih (l.drop (eH l.length)) nO nO) (bs (aDc _ _ hn) rfl))))
theorem Vy {n:Nat}{l:List au}(hn:2^20<n)(hb:l.length<=65536):Aa n l=some (lq n l):=by unfold Aa;exact aDf hn n l RS hb
theorem aon {n:Nat}{l:List au}(hn:2^20<n)(hb:l.length<=65536):Gg n l=some (lq n l):=by unfold Gg;exact aDg hn n l RS hb
theorem aoo {n:Nat}{l:List au}{d:au}(h:l.length<2^20):Kz n (l,d)=some (l++[d]):=by rw[aC1];exact gR (J6 RS aK) (gR (J6 dw aK) (by rw[List.nil_append];rfl))
theorem Vz (root:List au->Option au)(split:Int->Option Int)(g:Nat)(l:List au)(i:Int):xG root split (g+1) l i=bif Nat.beq l.length 1 then some [] else (split (l.length:Int)).bind fun k=>bif decide (0<=k/\k<=(l.length:Int)) then (bif decide (i<k) then (xG root split g (l.take k.toNat) i).bind fun p=>(root (l.drop k.toNat)).map fun d=>p++[d]else (xG root split g (l.drop k.toNat) (IntKind.wrap .i64 (i-k))).bind fun p=>(root (l.take k.toNat)).map fun d=>p++[d]) else none:=rfl
theorem aDh {n:Nat}(hn:2^20<n):∀(g g':Nat)(l:List au)(i:Int),l.length<g->l.length<g'->1<=l.length->l.length<=65536->0<=i->i< (l.length:Nat)->∃p:List au,xG (Aa n) (zT n) g l i=some p/\KA n g' (l,i)=some p/\p.length<l.length+1:=by
 intro g;induction g with
 |zero=>intro g' l i h;omega|succ g ih=>
  intro g' l i h h' h1 hb i0 i1;obtain⟨g',rfl⟩:∃q,g'=q+1:=⟨g'-1,RS⟩;by_cases he:l.length=1
  .refine⟨[],(Vz _ _ _ _ _).trans (iV (by rw[he];rfl) rfl),(afq _ _ _ _).trans (iV (by rw[he];rfl) rfl),aD⟩
  .obtain⟨k1,k2⟩:=Oe (n:=l.length) RS;have hne:Nat.beq l.length 1=false:=by
    cases hq:Nat.beq l.length 1 with
    |false=>rfl|true=>exact absurd (xZ hq) he
   have hn1:((l.length:Int)==1)=false:=by rw[beq_eq_false_iff_ne];omega
   have hk:decide ((0:Int)<=((eH l.length:Nat):Int)/\((eH l.length:Nat):Int)<=(l.length:Int))=true:=decide_eq_true ⟨RS,RS⟩;have hin:jl ((eH l.length:Nat):Int) l.length=true:=zV ⟨RS,RS⟩;cases hik:decide (i< ((eH l.length:Nat):Int)) with
   |true=>
    have hik':=of_decide_eq_true hik;obtain⟨p,e1,e2,e3⟩:=ih g' (l.take (eH l.length)) i og og og og i0 og;rw[mO] at e3;have e4:=Vy (n:=n) (l:=l.drop (eH l.length)) hn nO;have e5:=aon (n:=n) (l:=l.drop (eH l.length)) hn nO;refine⟨p++[lq n (l.drop (eH l.length))],?_,?_,xV⟩
    .refine(Vz _ _ _ _ _).trans (kQ hne (bs (Og RS RS) (iV hk (iV hik ?_))));rw[Int.toNat_natCast];refine bs e1 ?_;exact congrArg (fun o:Option au=>o.map fun d=>p++[d]) e4
    .refine(afq _ _ _ _).trans (kQ hn1 (bs (afr RS RS RS) (iV hik ?_)));rw[Int.toNat_natCast,hin];exact gR rfl (bs e2 (gR rfl (bs e5 (bs (aoo RS) rfl))))
   |false=>
    have hik':=of_decide_eq_false hik;obtain⟨p,e1,e2,e3⟩:=ih g' (l.drop (eH l.length)) (i-((eH l.length:Nat):Int)) nO nO nO nO RS nO;rw[qj] at e3;have e4:=Vy (n:=n) (l:=l.take (eH l.length)) hn og;have e5:=aon (n:=n) (l:=l.take (eH l.length)) hn og;refine⟨p++[lq n (l.take (eH l.length))],?_,?_,xV⟩
    .refine(Vz _ _ _ _ _).trans (kQ hne (bs (Og RS RS) (iV hk (kQ hik ?_))));rw[Int.toNat_natCast,gX (i:=i-((eH l.length:Nat):Int)) RS RS];refine bs e1 ?_;exact congrArg (fun o:Option au=>o.map fun d=>p++[d]) e4
    .refine(afq _ _ _ _).trans (kQ hn1 (bs (afr RS RS RS) (kQ hik ?_)));rw[Int.toNat_natCast,hin,gX (i:=i-((eH l.length:Nat):Int)) RS RS];exact gR rfl (bs e2 (gR rfl (bs e5 (bs (aoo RS) rfl))))
theorem aDi {n:Nat}{l:List au}{i:Int}(hn:2^20<n)(hb:l.length<=65536):∃(p:List au) (e:Int),ZS n (l,i)=some (p,e)/\Pp n (l,i)=some (⟨p,e⟩:jQ)/\((i<0\/i>=(l.length:Nat))->e=1/\p=[])/\(¬(i<0\/i>=(l.length:Nat))->e=0)/\p.length<=65536:=by
 rw[amR,aC2];unfold J9;by_cases h0:i<0
 .rw[decide_eq_true h0];exact⟨[],1,rfl,rfl,fun _=>⟨rfl,rfl⟩,fun h=>absurd (.inl h0) h,aD⟩
 .rw[decide_eq_false h0,Bool.false_or,cond_false];by_cases h1:i>=(l.length:Nat)
  .rw[decide_eq_true h1];exact⟨[],1,rfl,rfl,fun _=>⟨rfl,rfl⟩,fun h=>absurd (.inr h1) h,aD⟩
  .rw[decide_eq_false h1,cond_false,cond_false,decide_eq_true (show l.length<2^29 by omega),cond_true];obtain⟨p,e1,e2,e3⟩:=aDh hn (l.length+1) n l i RS RS RS hb RS RS;refine⟨p,0,by rw[e1];rfl,?_,fun h=>?_,fun _=>rfl,RS⟩
   .refine bs (o:=KC n (l,i)) (a:=p) ?_ rfl;unfold KC;exact e2
   .rcases h with h|h
    .exact absurd h h0
    .exact absurd h h1
end Sh
end
section
open Go Go.Proofs aQ
namespace Sh
set_option maxRecDepth 100000
attribute [local irreducible] j4
def sD (ls:List (List Int)):Nat:=ls.foldr (fun l s=>l.length+s) 0
theorem VA {ls:List (List Int)}{i:Nat}{x:List Int}(h:ls[i]? =some x):sD (ls.drop i)=x.length+sD (ls.drop (i+1)):=by
 have hlt:=pI h;rw[om hlt];have:ls[i]=x:=by rw[fI hlt] at h;exact kS h
 rw[this];rfl
theorem aDj {u:Unit}{k:Int}(h0:0<=k)(h1:k<=2^40):Jq (u,k)=some []:=by unfold Jq FN;exact if_pos ⟨h0,h1⟩
theorem aDk {u:Unit}{k:Int}(h0:0<=k)(h1:k<=2^40):Jr (u,k)=some []:=by unfold Jr FN;exact if_pos ⟨h0,h1⟩
theorem aDl {n:Nat}{ls:List (List Int)}(hs:sD ls<2^28)(hl:ls.length<2^28)(hn:ls.length<n):F9 n ls=some ls.flatten:=by
 rw[aCw];have h3:∀(k i m:Nat)(c:Nat),i+k=ls.length->k<m->c+sD (ls.drop i)=sD ls->PE n ls m ((c:Int),(i:Int))=some ((sD ls:Nat):Int):=by
  intro k;induction k with
  |zero=>intro i m c hi hm hc;obtain⟨m,rfl⟩:∃m',m=m'+1:=⟨m-1,RS⟩;rw[anJ,nW RS];rw[nG RS] at hc;rw[<-hc];rfl
  |succ k ih=>
   intro i m c hi hm hc;obtain⟨m,rfl⟩:∃m',m=m'+1:=⟨m-1,RS⟩;have hlt:i<ls.length:=RS
   have hx:ls[i]? =some ls[i]:=fI hlt;have hsz:=VA hx;rw[anJ,iU hx,eG hx,fU RS,cond_true,Option.bind_some,Uj RS,decide_eq_false RS];exact ih (i+1) m (c+ls[i].length) RS RS RS
 have h11:∀(k i m:Nat)(a:List Int),i+k=ls.length->k<m->a.length+sD (ls.drop i)=sD ls->PG n ls m (a,(i:Int))=some (a++(ls.drop i).flatten):=by
  intro k;induction k with
  |zero=>intro i m a hi hm hc;obtain⟨m,rfl⟩:∃m',m=m'+1:=⟨m-1,RS⟩;rw[anK,nW RS,nG RS,List.flatten_nil,jD];rfl
  |succ k ih=>
   intro i m a hi hm hc;obtain⟨m,rfl⟩:∃m',m=m'+1:=⟨m-1,RS⟩;have hlt:i<ls.length:=RS
   have hx:ls[i]? =some ls[i]:=fI hlt;have hsz:=VA hx;rw[anK,iU hx,eG hx,fU RS,cond_true,Option.bind_some,J6 RS aK,cond_true];have h:=ih (i+1) m (a++ls[i]) RS RS xX;rw[fP] at h;rw[om hlt,List.flatten_cons];exact h
 exact bs (h3 ls.length 0 n 0 RS hn aD) (bs (aDj RS RS) (bs (h11 ls.length 0 n [] RS hn aD) rfl))
theorem aDm {n:Nat}{ls:List (List Int)}(hs:sD ls<2^28)(hl:ls.length<2^28)(hn:ls.length<n):OL n ls=some ls.flatten:=by
 rw[aCz];have h3:∀(k i m:Nat)(c:Nat),i+k=ls.length->k<m->c+sD (ls.drop i)=sD ls->PK n ls m ((c:Int),(i:Int))=some ((sD ls:Nat):Int):=by
  intro k;induction k with
  |zero=>intro i m c hi hm hc;obtain⟨m,rfl⟩:∃m',m=m'+1:=⟨m-1,RS⟩;rw[anM,nW RS];rw[nG RS] at hc;rw[<-hc];rfl
  |succ k ih=>
   intro i m c hi hm hc;obtain⟨m,rfl⟩:∃m',m=m'+1:=⟨m-1,RS⟩;have hlt:i<ls.length:=RS
   have hx:ls[i]? =some ls[i]:=fI hlt;have hsz:=VA hx;rw[anM,iU hx,eG hx,fU RS,cond_true,Option.bind_some,Uj RS,decide_eq_false RS];exact ih (i+1) m (c+ls[i].length) RS RS RS
 have h11:∀(k i m:Nat)(a:List Int),i+k=ls.length->k<m->a.length+sD (ls.drop i)=sD ls->PL n ls m (a,(i:Int))=some (a++(ls.drop i).flatten):=by
  intro k;induction k with
  |zero=>intro i m a hi hm hc;obtain⟨m,rfl⟩:∃m',m=m'+1:=⟨m-1,RS⟩;rw[anN,nW RS,nG RS,List.flatten_nil,jD];rfl
  |succ k ih=>
   intro i m a hi hm hc;obtain⟨m,rfl⟩:∃m',m=m'+1:=⟨m-1,RS⟩;have hlt:i<ls.length:=RS
   have hx:ls[i]? =some ls[i]:=fI hlt;have hsz:=VA hx;rw[anN,iU hx,eG hx,fU RS,cond_true,Option.bind_some,J6 RS aK,cond_true];have h:=ih (i+1) m (a++ls[i]) RS RS xX;rw[fP] at h;rw[om hlt,List.flatten_cons];exact h
 exact bs (h3 ls.length 0 n 0 RS hn aD) (bs (aDk RS RS) (bs (h11 ls.length 0 n [] RS hn aD) rfl))
theorem aDn {n:Nat}{l:List (List UInt8)}(hb:∀x∈l,x.length<2^29)(hlen:l.length<2^62)(hn:20<n):∀(k i m:Nat)(a:List Int),i+k=l.length->k<m->a.length+jA fA (l.drop i)<2^29->PI n l m (a,(i:Int))=some (a++(l.drop i).flatMap fA):=by
 intro k;induction k with
 |zero=>intro i m a hi hm hc;obtain⟨m,rfl⟩:∃m',m=m'+1:=⟨m-1,RS⟩;rw[anL,nW RS,nG RS,List.flatMap_nil,jD];rfl
 |succ k ih=>
  intro i m a hi hm hc;obtain⟨m,rfl⟩:∃m',m=m'+1:=⟨m-1,RS⟩;have hlt:i<l.length:=RS
  have hx:l[i]? =some l[i]:=fI hlt;have hd:l.drop i=l[i]::l.drop (i+1):=om hlt;rw[hd] at hc⊢;have hm':=hb l[i] (lM hlt);generalize l[i]=x at hx hc hm'⊢;rw[anL,iU hx,eG hx,fU RS,cond_true];have hsz:jA fA (x::l.drop (i+1))=(fA x).length+jA fA (l.drop (i+1)):=rfl;have h:=ih (i+1) m (a++fA x) RS RS xX;rw[fP] at h;exact bs rfl (bs (alV hm' hn) (gR (l6 RS aK) h))
theorem aDo {n:Nat}{l:List (List UInt8)}(hb:∀x∈l,x.length<2^29)(hlen:l.length<2^62)(hn:20<n):∀(k i m:Nat)(a:List Int),i+k=l.length->k<m->a.length+jA fA (l.drop i)<2^29->PV n l m (a,(i:Int))=some (a++(l.drop i).flatMap fA):=by
 intro k;induction k with
 |zero=>intro i m a hi hm hc;obtain⟨m,rfl⟩:∃m',m=m'+1:=⟨m-1,RS⟩;rw[aod,nW RS,nG RS,List.flatMap_nil,jD];rfl
 |succ k ih=>
  intro i m a hi hm hc;obtain⟨m,rfl⟩:∃m',m=m'+1:=⟨m-1,RS⟩;have hlt:i<l.length:=RS
  have hx:l[i]? =some l[i]:=fI hlt;have hd:l.drop i=l[i]::l.drop (i+1):=om hlt;rw[hd] at hc⊢;have hm':=hb l[i] (lM hlt);generalize l[i]=x at hx hc hm'⊢;rw[aod,iU hx,eG hx,fU RS,cond_true];have hsz:jA fA (x::l.drop (i+1))=(fA x).length+jA fA (l.drop (i+1)):=rfl;have h:=ih (i+1) m (a++fA x) RS RS xX;rw[fP] at h;exact bs rfl (bs (alW hm' hn) (gR (l6 RS aK) h))
theorem aDp {n:Nat}{l:List (List UInt8)}(hb:∀x∈l,x.length<2^29)(hs:jA fA l<2^28)(hl:l.length<2^20)(hn:l.length<n)(hn2:20<n):OI n l=some (Dx l):=by have h1:=xE (l.length:Int);rw[aCy];refine bs (?_:_=some (Dx l)) rfl;rw[aCx];exact bs (N9 (Bv RS) hn2) (bs (aDn hb RS hn2 l.length 0 n _ RS hn Lm) rfl)
theorem aDq {n:Nat}{l:List (List UInt8)}(hb:∀x∈l,x.length<2^29)(hs:jA fA l<2^28)(hl:l.length<2^20)(hn:l.length<n)(hn2:20<n):Ph n l=some (Dx l):=by have h1:=xE (l.length:Int);rw[aCS];exact bs (Oa (Bv RS) hn2) (bs (aDo hb RS hn2 l.length 0 n _ RS hn Lm) rfl)
def qI (v:List Int)(a:List Attr):Prop:=v.length<=40/\a.length<=20/\∀x∈a,x.Name.length<=300/\x.S.length<=300
def yZ (e:Entry):Prop:=(rI e.ID/\rI e.iT/\rI e.fM/\rI e.iF/\rI e.From/\rI e.To/\rI e.jo)/\(∀x∈e.Vec,rI x)/\∀a∈e.aX,rI a.Kind/\rI a.N
def KT (a:Attr):List Int:=[a.Kind,a.N]
def P5 (a:Attr):List (List UInt8):=[a.Name,a.S]
def uT (e:Entry):List Int:=([e.ID,e.iT,e.fM,e.iF,e.From,e.To,e.jo,((e.Vec.length:Nat):Int)]++e.Vec++[((e.aX.length:Nat):Int)])++e.aX.flatMap KT
def BH (e:Entry):List (List UInt8):=e.aX.flatMap P5
def rE (e:Entry):List Int:=Dw (uT e)++Dx (BH e)
theorem afs {U β:Type}{f:U->List β}(h:∀a,(f a).length=2):∀l:List U,(l.flatMap f).length=2*l.length
 | []=>rfl|a::l=>by rw[kT,fG,h,afs h l,List.length_cons];omega
theorem aft (e:Entry):(uT e).length=9+e.Vec.length+2*e.aX.length:=by unfold uT;rw[fG,afs (fun _=>rfl)];simp only[fG,List.length_cons,List.length_nil];omega
theorem afu (e:Entry):(BH e).length=2*e.aX.length:=afs (fun _=>rfl) _
theorem aop {e:Entry}(h:yZ e)(ht:qI e.Vec e.aX):∀x∈uT e,rI x:=by
 obtain⟨⟨h1,h2,h3,h4,h5,h6,h7⟩,h8,h9⟩:=h;obtain⟨t1,t2,_⟩:=ht;intro x hx;unfold uT at hx;rcases rH.1 hx with hx|hx
 .rcases rH.1 hx with hx|hx
  .rcases rH.1 hx with hx|hx
   .simp only[jr,List.not_mem_nil,or_false] at hx;rcases hx with rfl|rfl|rfl|rfl|rfl|rfl|rfl|rfl;all_goals first|assumption|exact Bv RS
   .exact h8 x hx
  .rw[iZ.1 hx];exact Bv RS
 .obtain⟨a,ha,hx⟩:=List.mem_flatMap.1 hx;unfold KT at hx;simp only[jr,List.not_mem_nil,or_false] at hx;rcases hx with rfl|rfl
  .exact(h9 a ha).1
  .exact(h9 a ha).2
theorem KU {e:Entry}(ht:qI e.Vec e.aX):∀x∈BH e,x.length<=300:=by
 intro x hx;obtain⟨a,ha,hx⟩:=List.mem_flatMap.1 hx;unfold P5 at hx;simp only[jr,List.not_mem_nil,or_false] at hx;rcases hx with rfl|rfl
 .exact(ht.2.2 a ha).1
 .exact(ht.2.2 a ha).2
theorem aoq {e:Entry}(ht:qI e.Vec e.aX):jA fA (BH e)<=310*(BH e).length:=J7 (b:=310) fun x hx=>by have:=Ob x;have:=KU ht x hx;omega
theorem aDr {e:Entry}(ht:qI e.Vec e.aX):(rE e).length<=2^15:=by unfold rE;have h1:=aaT (l:=uT e);have h2:=aaU (b:=300) (KU ht);have h3:=aft e;have h4:=afu e;obtain⟨t1,t2,_⟩:=ht;rw[fG];omega
theorem aDs {n:Nat}{e:Entry}(hlen:e.aX.length<=20):∀(k i m:Nat)(a:List Int)(b:List (List UInt8)),i+k=e.aX.length->k<m->a.length<2^20->b.length<2^20->KM n e m (a,(b,(i:Int)))=some (a++(e.aX.drop i).flatMap KT,b++(e.aX.drop i).flatMap P5):=by
 have key:∀(k i m:Nat)(a:List Int)(b:List (List UInt8)),i+k=e.aX.length->k<m->a.length+2*k<2^21->b.length+2*k<2^21->KM n e m (a,(b,(i:Int)))=some (a++(e.aX.drop i).flatMap KT,b++(e.aX.drop i).flatMap P5):=by
  intro k;induction k with
  |zero=>intro i m a b hi hm ha hb;obtain⟨m,rfl⟩:∃m',m=m'+1:=⟨m-1,RS⟩;rw[anO,nW RS,nG RS,List.flatMap_nil,List.flatMap_nil,jD,jD];rfl
  |succ k ih=>
   intro i m a b hi hm ha hb;obtain⟨m,rfl⟩:∃m',m=m'+1:=⟨m-1,RS⟩;have hlt:i<e.aX.length:=RS
   have hx:e.aX[i]? =some e.aX[i]:=fI hlt;have hd:e.aX.drop i=e.aX[i]::e.aX.drop (i+1):=om hlt;rw[hd];generalize e.aX[i]=x at hx⊢;rw[anO,iU hx,eG hx,fU RS,cond_true];have h:=ih (i+1) m (a++[x.Kind,x.N]) (b++[x.Name,x.S]) RS RS QH QH;rw[fP,fP] at h;exact bs rfl (gR (l6 dw aK) (gR (l6 dw aK) h))
 intro k i m a b hi hm ha hb;exact key k i m a b hi hm RS RS
theorem aDt {n:Nat}{e:Entry}(hlen:e.aX.length<=20):∀(k i m:Nat)(a:List Int)(b:List (List UInt8)),i+k=e.aX.length->k<m->a.length+2*k<2^21->b.length+2*k<2^21->PW n e m (a,(b,(i:Int)))=some (a++(e.aX.drop i).flatMap KT,b++(e.aX.drop i).flatMap P5):=by
 intro k;induction k with
 |zero=>intro i m a b hi hm ha hb;obtain⟨m,rfl⟩:∃m',m=m'+1:=⟨m-1,RS⟩;rw[aoe,nW RS,nG RS,List.flatMap_nil,List.flatMap_nil,jD,jD];rfl
 |succ k ih=>
  intro i m a b hi hm ha hb;obtain⟨m,rfl⟩:∃m',m=m'+1:=⟨m-1,RS⟩;have hlt:i<e.aX.length:=RS
  have hx:e.aX[i]? =some e.aX[i]:=fI hlt;have hd:e.aX.drop i=e.aX[i]::e.aX.drop (i+1):=om hlt;rw[hd];generalize e.aX[i]=x at hx⊢;rw[aoe,iU hx,eG hx,fU RS,cond_true];have h:=ih (i+1) m (a++[x.Kind,x.N]) (b++[x.Name,x.S]) RS RS QH QH;rw[fP,fP] at h;exact bs rfl (bs rfl (gR (l6 dw aK) (bs rfl (bs rfl (gR (l6 dw aK) h)))))
theorem aDu {n:Nat}{e:Entry}(h:yZ e)(ht:qI e.Vec e.aX)(hn:2^20<n):OM n e=some (rE e):=by
 have h3:=aft e;have h4:=afu e;have h5:=aoq ht;have ht':=ht;obtain⟨t1,t2,_⟩:=ht';have h6:=aaT (l:=uT e);have h7:=aaU (b:=300) (KU ht);rw[aCA];refine bs (aDl (ls:=[[e.ID,e.iT,e.fM,e.iF,e.From,e.To,e.jo,((e.Vec.length:Nat):Int)],e.Vec,[((e.aX.length:Nat):Int)]]) (by simp[sD];omega) aD dw) ?_;refine bs (aDs (n:=n) (e:=e) t2 e.aX.length 0 n _ [] RS RS dw aD) ?_;rw[qm,List.nil_append];have e1:([[e.ID,e.iT,e.fM,e.iF,e.From,e.To,e.jo,((e.Vec.length:Nat):Int)],e.Vec,[((e.aX.length:Nat):Int)]]:List (List Int)).flatten++e.aX.flatMap KT=uT e:=by unfold uT;simp
 rw[e1];refine bs (ayV (l:=uT e) (aop h ht) RS RS RS) ?_;refine bs (aDp (l:=BH e) (fun x hx=>by have:=KU ht x hx;omega) RS RS RS RS) ?_;have hc:=aDm (n:=n) (ls:=[Dw (uT e),Dx (BH e)]) (by simp[sD];omega) aD dw;rw[show ([Dw (uT e),Dx (BH e)]:List (List Int)).flatten=rE e by unfold rE;simp] at hc;exact bs hc rfl
theorem aDv {n:Nat}{e:Entry}(h:yZ e)(ht:qI e.Vec e.aX)(hn:2^20<n):Pj n e=some (rE e):=by have h3:=aft e;have h4:=afu e;have h5:=aoq ht;have ht':=ht;obtain⟨t1,t2,_⟩:=ht';have h6:=aaT (l:=uT e);have h7:=aaU (b:=300) (KU ht);rw[aCT];refine gR (l6 dw aK) (gR (l6 dw aK) ?_);refine bs (aDt (n:=n) (e:=e) t2 e.aX.length 0 n _ [] RS RS dw dw) ?_;rw[qm,List.nil_append];refine bs (ayW (l:=uT e) (aop h ht) RS RS RS) ?_;refine gR (l6 RS aK) ?_;refine bs (aDq (l:=BH e) (fun x hx=>by have:=KU ht x hx;omega) RS RS RS RS) ?_;refine gR (l6 (by rw[List.nil_append];omega) aK) ?_;unfold rE;rw[List.nil_append];rfl
end Sh
end
section
open Go Go.Proofs aQ
namespace Sh
set_option maxRecDepth 100000
attribute [local irreducible] j4
def BI:List (List (List UInt8))->Nat
 | []=>0|a::l=>a.length+BI l
theorem aDw {n:Nat}{l:List (List (List UInt8))}(hb:l.length<2^20):∀(k i m s:Nat),i+k=l.length->k<m->s+BI (l.drop i)<2^28->PN n l m ((s:Int),(i:Int))=some ((s+BI (l.drop i):Nat):Int):=by
 intro k;induction k with
 |zero=>intro i m s hi hm _;obtain⟨m,rfl⟩:∃m',m=m'+1:=⟨m-1,RS⟩;rw[anP,nW RS,nG RS];rfl
 |succ k ih=>
  intro i m s hi hm hc;obtain⟨m,rfl⟩:∃m',m=m'+1:=⟨m-1,RS⟩;have hlt:i<l.length:=RS
  have hx:l[i]? =some l[i]:=fI hlt;have hd:l.drop i=l[i]::l.drop (i+1):=om hlt;rw[hd] at hc⊢;generalize l[i]=x at hx hc⊢;have e:BI (x::l.drop (i+1))=x.length+BI (l.drop (i+1)):=rfl;have h:=ih (i+1) m (s+x.length) RS RS RS;rw[anP,iU hx,cond_true,fU RS];refine bs (eG hx) ?_;rw[Uj (show s+x.length<2^62 by omega)];refine kQ (decide_eq_false RS) ?_;rw[h,e,oZ]
theorem aDx {n:Nat}{l:List (List (List UInt8))}(hb:l.length<2^20):∀(k i m:Nat)(a:List (List UInt8)),i+k=l.length->k<m->a.length+BI (l.drop i)<2^28->PO n l m (a,(i:Int))=some (a++(l.drop i).flatten):=by
 intro k;induction k with
 |zero=>intro i m a hi hm _;obtain⟨m,rfl⟩:∃m',m=m'+1:=⟨m-1,RS⟩;rw[anQ,nW RS,nG RS,List.flatten_nil,jD];rfl
 |succ k ih=>
  intro i m a hi hm hc;obtain⟨m,rfl⟩:∃m',m=m'+1:=⟨m-1,RS⟩;have hlt:i<l.length:=RS
  have hx:l[i]? =some l[i]:=fI hlt;have hd:l.drop i=l[i]::l.drop (i+1):=om hlt;rw[hd] at hc⊢;generalize l[i]=x at hx hc⊢;have e:BI (x::l.drop (i+1))=x.length+BI (l.drop (i+1)):=rfl;have h:=ih (i+1) m (a++x) RS RS xX;rw[anQ,iU hx,cond_true,fU RS,List.flatten_cons,<-fP];exact bs (eG hx) (gR (l6 RS aK) h)
theorem aDy {k:Nat}(h:k<2^28):Js ((),((k:Nat):Int))=some []:=by unfold Js;exact if_pos ⟨by show (0:Int)<=(k:Nat);omega,by show ((k:Nat):Int)<=2^40;omega⟩
theorem aDz {n:Nat}{l:List (List (List UInt8))}(hb:l.length<n)(hb2:l.length<2^20)(hs:BI l<2^28):OP n l=some l.flatten:=by rw[aCB];have h1:=aDw (n:=n) hb2 l.length 0 n 0 RS hb Lm;have h2:=aDx (n:=n) hb2 l.length 0 n [] RS hb (by rw[qm];show 0+_<_;omega);rw[qm] at h1 h2;rw[o7] at h1;exact bs h1 (bs (aDy hs) (bs h2 rfl))
def qc (x:au)(e:Entry):au:=j4 121 [dV x,l5 (encI 363),l5 (rE e)]
theorem aor (x:au){e:Entry}(ht:qI e.Vec e.aX):(∀y∈[dV x,l5 (encI 363),l5 (rE e)],y.length<2^28)/\jA fA [dV x,l5 (encI 363),l5 (rE e)]<=2^17:=by
 have h1:=aDr ht;have h2:(encI 363).length=2:=Gz
 have l1:(dV x).length=16:=rfl;have l2:(l5 (encI 363)).length=2:=by rw[Dv,h2]
 have l3:(l5 (rE e)).length<=2^15:=by rw[Dv];exact h1
 refine⟨fun y hy=>?_,?_⟩
 .simp only[jr,List.not_mem_nil,or_false] at hy;rcases hy with rfl|rfl|rfl<;>omega
 .have a1:=Ob (dV x);have a2:=Ob (l5 (encI 363));have a3:=Ob (l5 (rE e));show (fA _).length+((fA _).length+((fA _).length+0))<=_;omega
theorem P6 {n:Nat}(x:au){e:Entry}(h:yZ e)(ht:qI e.Vec e.aX)(hn:2^20<n):BA n (x,e)=some (qc x e):=by obtain⟨h1,h2⟩:=aor x ht;rw[aCD];refine bs (N9 (n:=n) (x:=363) ⟨aK,aK⟩ RS) (bs (aDu h ht hn) ?_);refine bs (o:=OQ n _) (a:=qc x e) ?_ rfl;refine(aCC n (dV x) [l5 (encI 363),l5 (rE e)]).trans ?_;refine bs (aDz (n:=n) (l:=[[dV x],[l5 (encI 363),l5 (rE e)]]) (by show 2<n;omega) (by show 2<2^20;decide) (by show 1+(2+0)<2^28;decide)) ?_;exact bs (Od (n:=n) (t:=121) (ls:=[dV x,l5 (encI 363),l5 (rE e)]) h1 RS RS (by show 3<n;omega) RS (by show 3<2^62;decide)) rfl
theorem afv {n:Nat}(x:au){e:Entry}(h:yZ e)(ht:qI e.Vec e.aX)(hn:2^20<n):Gf n (x,e)=some (qc x e):=by obtain⟨h1,h2⟩:=aor x ht;rw[aCV];refine bs (Oa (n:=n) (x:=363) ⟨aK,aK⟩ RS) (bs (aDv h ht hn) ?_);refine bs (o:=Pk n _) (a:=qc x e) ?_ rfl;refine(aCU n (dV x) [l5 (encI 363),l5 (rE e)]).trans ?_;rw[J6 (by show 1+2<_;decide) aK,cond_true];exact bs (aaV (n:=n) (t:=121) (ls:=[dV x,l5 (encI 363),l5 (rE e)]) h1 RS RS (by show 3<n;omega) RS (by show 3<2^62;decide)) rfl
end Sh
end
section
open Go Go.Proofs aQ
namespace Sh
def findD (s:aM)(x:List UInt8):Int:=match s.Defs.findIdx? (fun d=>d.Name==x) with
 |some i=>(i:Int)|none=>-1
theorem aDA {n:Nat}{s:aM}{x:List UInt8}(h:s.Defs.length<n)(hb:s.Defs.length<2^62):Oy n (s,x)=some (findD s x):=by
 have:=J5 (L:=fun m i=>Py n s x m i) (l:=s.Defs) (fun d i r=>bif d.Name==x then some (.inr (i:Int)) else r) (some (.inl ()))
  (fun m i d hd=>by have hlt:=pI hd;rw[anw,iU hd,eG hd,fU RS];rfl)
  (fun m=>by rw[anw,zU];rfl) h
 rw[aB6,this,F4 (fun d:Def=>d.Name==x) (fun i=>(Sum.inr (i:Int):PUnit⊕Int)) (.inl ())];unfold findD;cases s.Defs.findIdx? (fun d=>d.Name==x) with
 |none=>rfl|some j=>simp;rfl
theorem aos {n:Nat}{l:List (List UInt8)}{x:List UInt8}(h:l.length<n)(hb:l.length<2^62):F7 n (l,x)=some (l.any (· ==x)):=by
 have:=J5 (L:=fun m i=>Pv n l x m i) (l:=l) (fun d i r=>bif d==x then some (.inr true) else r) (some (.inl ()))
  (fun m i d hd=>by have hlt:=pI hd;rw[ano,iU hd,eG hd,fU RS];rfl)
  (fun m=>by rw[ano,zU];rfl) h
 rw[aBX,this,F4 (fun d:List UInt8=>d==x) (fun i=>(Sum.inr true:PUnit⊕Bool)) (.inl ())];cases hf:l.findIdx? (fun d=>d==x) with
 |none=>
  rw[List.findIdx?_eq_none_iff] at hf;have:l.any (· ==x)=false:=by rw[List.any_eq_false];intro y hy;simpa using hf y hy
  rw[this];rfl
 |some j=>
  obtain⟨hj,h2,_⟩:=List.findIdx?_eq_some_iff_getElem.1 hf;have:l.any (· ==x)=true:=by rw[List.any_eq_true];exact⟨l[j],lM hj,h2⟩
  rw[this];rfl
theorem KV {U:Type}{c:Bool}{o:Option U}{d:U}(h:c=true->∃x,o=some x):∃x,nU c o d=some x:=by
 cases c
 .exact⟨d,rfl⟩
 .exact h rfl
theorem aDB {n:Nat}{e:Entry}(h:e.aX.length<n)(hb:e.aX.length<2^62):∃b,Ka n e=some b:=by
 obtain⟨r,hr,_⟩:=alF (L:=fun m i=>DR n e m i) (fun i=>0<=i/\i<=e.aX.length) (fun i=>(e.aX.length-i).toNat) (fun _=>True)
  (fun m i hi ih=>by rw[afj];refine kF (fun hc=>?_) (fun _=>kP trivial);have hc':decide (i< ((e.aX.length:Nat):Int))=true:=(by revert hc;cases decide (i< ((e.aX.length:Nat):Int))<;>simp);obtain⟨x,hx⟩:=aye hi.1 hc';refine fO ⟨x,hx,?_⟩;rw[hx];obtain⟨y,hy⟩:=KV (c:= !(decide ((((x.Name.length:Nat):Int))> (300:Int)))) (o:=some x) (d:=(⟨[],(0:Int),(0:Int),[]⟩:Attr)) (fun _=>⟨x,rfl⟩);refine fO ⟨y,hy,?_⟩;refine kF (fun _=>kP trivial) (fun _=>?_);have h3:=of_decide_eq_true hc';rw[IntKind.wrap_i64];have e2:(i+1+9223372036854775808)% 18446744073709551616-9223372036854775808=i+1:=RS;rw[e2];exact ih _ ⟨RS,RS⟩ RS) n (0:Int) ⟨RS,RS⟩ ze
 rw[ang,hr];cases r with
 |inl q=>exact⟨_,rfl⟩|inr q=>exact⟨_,rfl⟩
def rF (s:aM)(n:Nat):Prop:=s.Defs.length<n/\s.Defs.length<2^62/\∀d∈s.Defs,d.Name.length<n/\d.Name.length<2^62/\d.Words.length<n/\d.Words.length<2^62/\∀w∈d.Words,w.length<n/\w.length<2^62
theorem aot {n:Nat}{x:List UInt8}(h:x.length<n)(hb:x.length<2^62)(hn:6<n):∃b:Bool,QR n x=some b:=by
 obtain⟨r,hr⟩:=Bt (L:=fun m (_:Unit) i=>DW n x m i) (l:=x)
  (fun m i c _ hc ih=>by
    have hlt:=pI hc;show∃r,DW n x (m+1) (i:Int)=some r;rw[anp,iU hc,eG hc,fU RS,cond_true,Option.bind_some];cases (bif !(bif decide ((c.toNat:Int)>=(97:Int)) then decide ((c.toNat:Int)<=(122:Int)) else false) then bif (i:Int)==(0:Int) then true else !(bif bif decide ((c.toNat:Int)>=(48:Int)) then decide ((c.toNat:Int)<=(57:Int)) else false then true else (c.toNat:Int)==(95:Int)) else false)
    .exact ih ()
    .exact⟨_,rfl⟩)
  (fun m _ i hi=>by show∃r,DW n x (m+1) (i:Int)=some r;rw[anp,nW hi];exact⟨_,rfl⟩) x.length 0 n () RS h
 have hr':DW n x n (0:Int)=some r:=hr;rw[aBY,hr'];cases r with
 |inl q=>obtain⟨b,hb'⟩:=KV (c:=bif decide ((x.length:Int)>=(1:Int)) then decide ((x.length:Int)<=(40:Int)) else false) (o:=F7 n (([[(97:UInt8),(108:UInt8),(108:UInt8)],[(97:UInt8),(110:UInt8),(100:UInt8)],[(104:UInt8),(97:UInt8),(115:UInt8)],[(105:UInt8),(110:UInt8)],[(110:UInt8),(111:UInt8),(116:UInt8)],[(111:UInt8),(114:UInt8)]],x))) (d:=false) (fun _=>⟨_,aos (show 6<n from hn) (show 6<2^62 by omega)⟩);rw[Option.bind_some];show∃b,Option.bind (nU _ _ _) _=some b;rw[hb'];exact⟨_,rfl⟩
 |inr q=>exact⟨q,rfl⟩
theorem aDC {n:Nat}{l:List (List UInt8)}(h:l.length<n)(hb:l.length<2^62)(hw:∀w∈l,w.length<n/\w.length<2^62)(hn:6<n):∃e:Int,Ot n l=some e:=by
 rw[aBZ];cases (bif decide ((l.length:Int)< (1:Int)) then true else decide ((l.length:Int)> (50:Int)))
 .obtain⟨r,hr⟩:=Bt (L:=fun m (_:Unit) i=>DX n l m i) (l:=l)
   (fun m i c _ hc ih=>by
     have hlt:=pI hc;show∃r,DX n l (m+1) (i:Int)=some r;obtain⟨b,hb'⟩:=aot (hw c (tX hc)).1 (hw c (tX hc)).2 hn;rw[anq,iU hc,eG hc,fU RS,cond_true,Option.bind_some,hb'];cases b
     .exact⟨_,rfl⟩
     .exact ih ())
   (fun m _ i hi=>by show∃r,DX n l (m+1) (i:Int)=some r;rw[anq,nW hi];exact⟨_,rfl⟩) l.length 0 n () RS h
  have hr':DX n l n (0:Int)=some r:=hr;rw[cond_false,hr',Option.bind_some];cases r with
  |inr q=>exact⟨q,rfl⟩|inl q=>
   obtain⟨r,hr2⟩:=Bt (L:=fun m (_:Unit) i=>DY n l m (i+1)) (l:=l.tail)
    (fun m i c _ hc ih=>by
      have hc':l[i+1]? =some c:=(by rw[List.getElem?_tail] at hc;exact hc);have hlt:=pI hc';show∃r,DY n l (m+1) ((i:Int)+1)=some r;have ei:(i:Int)+1=((i+1:Nat):Int):=RS;have e0:IntKind.wrap .i64 (((i+1:Nat):Int)-(1:Int))=(i:Int):=Ai;have hi0:l[i]? =some l[i]:=fI RS;rw[ei,anr,iU hc',eG hc',fU RS,e0,eG hi0,cond_true,Option.bind_some,Option.bind_some];cases (Go.Op.bytesLess c l[i]||c==l[i])
      .have:=ih ();have e1:(((i+1:Nat):Int))+1=((i+1+1:Nat):Int):=RS;simp only[e1] at this;exact this
      .exact⟨_,rfl⟩)
    (fun m _ i hi=>by show∃r,DY n l (m+1) ((i:Int)+1)=some r;have ei:(i:Int)+1=((i+1:Nat):Int):=RS;rw[ei,anr,nW (by rw[List.length_tail] at hi;omega)];exact⟨_,rfl⟩) l.length 0 n () (by rw[List.length_tail];omega) h
   have hr2':DY n l n (1:Int)=some r:=hr2;rw[Sum.elim_inl,hr2',Option.bind_some];cases r with
   |inl q=>exact⟨0,rfl⟩|inr q=>exact⟨q,rfl⟩
 .exact⟨_,rfl⟩
theorem l8 {U:Type}{c:Bool}{a b:Option U}(ha:∃r,a=some r)(hb:∃r,b=some r):∃r,(bif c then a else b)=some r:=by
 cases c
 .exact hb
 .exact ha
theorem aDD {n:Nat}{d:Def}{x:List UInt8}(h:d.Name.length<n/\d.Name.length<2^62/\d.Words.length<n/\d.Words.length<2^62/\∀w∈d.Words,w.length<n/\w.length<2^62)(hn:6<n):∃e:Int,Ou n (d,x)=some e:=by obtain⟨b,hb⟩:=aot h.1 h.2.1 hn;obtain⟨e,he⟩:=aDC h.2.2.1 h.2.2.2.1 h.2.2.2.2 hn;rw[aB1,hb];show∃e:Int,(bif !b then some (5:Int) else _)=some e;refine l8 ⟨_,rfl⟩ (l8 ⟨_,rfl⟩ (l8 (l8 ⟨_,rfl⟩ (l8 ⟨_,rfl⟩ ⟨_,rfl⟩)) (l8 (l8 ⟨_,rfl⟩ ?_) ⟨_,rfl⟩)));rw[he];exact⟨e,rfl⟩
theorem aDE {n:Nat}{s:aM}(h:rF s n)(hn:6<n):∃e:Int,Ov n s=some e:=by
 obtain⟨h1,h2,h3⟩:=h;obtain⟨b,hb⟩:=KV (c:= !(bif decide (s.j3< (1:Int)) then true else decide (s.j3> (32:Int)))) (o:=Oo n s.lY) (d:=false) (fun _=>by rw[aBW];exact⟨_,rfl⟩);obtain⟨r,hr⟩:=Bt (L:=fun m (x:List UInt8) i=>DZ n s m (x,i)) (l:=s.Defs)
  (fun m i d x hd ih=>by have hlt:=pI hd;show∃r,DZ n s (m+1) (x,(i:Int))=some r;obtain⟨e,he⟩:=aDD (x:=x) (h3 d (tX hd)) hn;rw[ant,iU hd,eG hd,fU RS,cond_true,Option.bind_some,he];show∃r,(bif e !=(0:Int) then _ else _)=some r;exact l8 ⟨_,rfl⟩ (ih _))
  (fun m x i hi=>by show∃r,DZ n s (m+1) (x,(i:Int))=some r;rw[ant,nW hi];exact⟨_,rfl⟩) s.Defs.length 0 n [] RS h1
 have hr':DZ n s n ([],(0:Int))=some r:=hr;rw[aB2];show∃e:Int,Option.bind (nU _ _ _) _=some e;rw[hb];show∃e:Int,(bif _ then some (1:Int) else _)=some e;refine l8 ⟨_,rfl⟩ (l8 ⟨_,rfl⟩ ?_);rw[hr',Option.bind_some];cases r with
 |inl q=>exact⟨0,rfl⟩|inr q=>exact⟨q,rfl⟩
theorem aDF {n:Nat}{s:aM}{k:Int}(h:rF s n):∃b:Bool,Ke n (s,k)=some b:=by
 obtain⟨h1,h2,h3⟩:=h;obtain⟨r,hr⟩:=Bt (L:=fun m (_:Unit) i=>DV n s k m i) (l:=s.Defs)
  (fun m i d _ hd ih=>by
    have hlt:=pI hd;obtain⟨w1,w2,w3,w4,w5⟩:=h3 d (tX hd);show∃r,DV n s k (m+1) (i:Int)=some r;obtain⟨r,hr⟩:=Bt (L:=fun m (_:Unit) j=>DU n s k (i:Int) d m j) (l:=d.Words)
     (fun m j w _ hw ih=>by have hlt:=pI hw;show∃r,DU n s k (i:Int) d (m+1) (j:Int)=some r;rw[anj,iU hw,eG hw,fU RS,cond_true,Option.bind_some];exact l8 ⟨_,rfl⟩ (ih ()))
     (fun m _ j hj=>by show∃r,DU n s k (i:Int) d (m+1) (j:Int)=some r;rw[anj,nW hj];exact⟨_,rfl⟩) d.Words.length 0 n () RS w3
    have hr':DU n s k (i:Int) d n (0:Int)=some r:=hr;rw[ank,iU hd,eG hd,fU RS,Option.bind_some,hr'];refine l8 (l8 ⟨_,rfl⟩ ?_) ⟨_,rfl⟩;cases r with
    |inl q=>exact ih ()|inr q=>exact⟨_,rfl⟩)
  (fun m _ i hi=>by show∃r,DV n s k (m+1) (i:Int)=some r;rw[ank,nW hi];exact⟨_,rfl⟩) s.Defs.length 0 n () RS h1
 have hr':DV n s k n (0:Int)=some r:=hr;rw[aBV,hr',Option.bind_some];cases r with
 |inl q=>exact⟨_,rfl⟩|inr q=>exact⟨q,rfl⟩
def aDG (l:List Event)(n:Nat):Prop:=l.length<n/\l.length<2^62/\∀x∈l,x.aX.length<n/\x.aX.length<2^62
theorem aDH {n:Nat}{l:List Event}{k:Int}(h:aDG l n):∃b:Bool,Kc n (l,k)=some b:=by
 obtain⟨h1,h2,h3⟩:=h;obtain⟨r,hr⟩:=Bt (L:=fun m (_:Unit) i=>yV n l k m i) (l:=l)
  (fun m i x _ hx ih=>by have hlt:=pI hx;obtain⟨a1,a2⟩:=h3 x (tX hx);show∃r,yV n l k (m+1) (i:Int)=some r;rw[Vw,iU hx,eG hx,fU RS];refine l8 ?_ ⟨_,rfl⟩;rw[Option.bind_some,Option.bind_some];obtain⟨b,hb⟩:=aDB (n:=n) (e:=⟨0,0,0,0,0,0,0,x.Vec,x.aX⟩) a1 a2;rw[hb];show∃r,(bif !b then _ else _)=some r;exact l8 ⟨_,rfl⟩ (ih ()))
  (fun m _ i hi=>by show∃r,yV n l k (m+1) (i:Int)=some r;rw[Vw,nW hi];exact⟨_,rfl⟩) l.length 0 n () RS h1
 have hr':yV n l k n (0:Int)=some r:=hr;rw[ani,hr',Option.bind_some];cases r with
 |inl q=>exact⟨_,rfl⟩|inr q=>exact⟨q,rfl⟩
theorem aDI {n:Nat}{b:Book}{d:Int}(h:b.Rows.length<n)(hb:b.Rows.length<2^62):∃r:Bool,Ow n (b,d)=some r:=by
 have:=J5 (L:=fun m i=>Px n b d m i) (l:=b.Rows) (fun x i r=>bif x.Entry.ID==d then some (.inr true) else r) (some (.inl ()))
  (fun m i x hx=>by have hlt:=pI hx;rw[anu,iU hx,eG hx,fU RS];rfl)
  (fun m=>by rw[anu,zU];rfl) h
 rw[aB4,this,F4 (fun x:Row=>x.Entry.ID==d) (fun i=>(Sum.inr true:PUnit⊕Bool)) (.inl ())];cases b.Rows.findIdx? (fun x:Row=>x.Entry.ID==d)<;>exact⟨_,rfl⟩
theorem aDJ {n:Nat}{l:List Int}(h:l.length<n)(hb:l.length<2^62):∃r:Bool,Ox n l=some r:=by
 obtain⟨r,hr⟩:=Bt (L:=fun m (_:Unit) i=>D5 n l m i) (l:=l)
  (fun m i x _ hx ih=>by have hlt:=pI hx;show∃r,D5 n l (m+1) (i:Int)=some r;rw[anv,iU hx,eG hx,fU RS];obtain⟨z,hz⟩:=KV (c:= !(decide (x< (-1000:Int)))) (o:=some x) (d:=(0:Int)) (fun _=>⟨_,rfl⟩);simp only[cond_true,Option.bind_some,hz];exact l8 ⟨_,rfl⟩ (ih ()))
  (fun m _ i hi=>by show∃r,D5 n l (m+1) (i:Int)=some r;rw[anv,nW hi];exact⟨_,rfl⟩) l.length 0 n () RS RS
 have hr':D5 n l n (0:Int)=some r:=hr;rw[aB5,hr',Option.bind_some];cases r<;>exact⟨_,rfl⟩
theorem aDK {n:Nat}{d:Def}{a:Attr}(h:d.Words.length<n)(hb:d.Words.length<2^62):∃r:Int,Dy n (d,a)=some r:=by rw[aB7,aos h hb];exact l8 ⟨_,rfl⟩ (l8 (l8 ⟨_,rfl⟩ (l8 ⟨_,rfl⟩ ⟨_,rfl⟩)) (l8 ⟨_,rfl⟩ (l8 ⟨_,rfl⟩ ⟨_,rfl⟩)))
theorem aDL {s:aM}{x:List UInt8}(h:¬findD s x<0):∃(i:Nat) (d:Def),findD s x=(i:Int)/\s.Defs[i]? =some d:=by
 unfold findD at h⊢;cases hf:s.Defs.findIdx? (fun d=>d.Name==x) with
 |none=>rw[hf] at h;exact absurd aK h|some i=>obtain⟨hi,_⟩:=List.findIdx?_eq_some_iff_getElem.mp hf;exact⟨i,s.Defs[i],rfl,fI hi⟩
theorem aDM {n:Nat}{s:aM}{l:List Attr}(hs:rF s n)(h:l.length<n)(hb:l.length<2^62):∃r:Int,QP n (s,l)=some r:=by
 obtain⟨s1,s2,s3⟩:=hs;obtain⟨r,hr⟩:=Bt (L:=fun m (_:Unit) i=>yX n s l m i) (l:=l)
  (fun m i x _ hx ih=>by
    have hlt:=pI hx;have ih':∃r,yX n s l m ((i+1:Nat):Int)=some r:=ih ();show∃r,yX n s l (m+1) (i:Int)=some r;rw[anx,iU hx,eG hx,fU RS];simp only[cond_true,Option.bind_some];rw[aDA s1 s2];show∃r,(bif decide (findD s x.Name<0) then some (Sum.inr (5:Int)) else _)=some r;by_cases hf:findD s x.Name<0
    .rw[decide_eq_true hf];exact⟨_,rfl⟩
    obtain⟨j,d,hj,hd⟩:=aDL hf;rw[decide_eq_false hf,hj,eG hd];have hv:∃v:Int,Dy n (d,x)=some v:=(by obtain⟨_,_,w1,w2,_⟩:=s3 d (tX hd);exact aDK w1 w2);obtain⟨v,hv⟩:=hv;have tail:∃r,((Dy n (d,x)).bind fun (dB:Int)=>bif dB !=(0:Int) then some (Sum.inr dB) else yX n s l m ((i+1:Nat):Int))=some r:=(by rw[hv];exact l8 ⟨_,rfl⟩ ih');show∃r,(bif decide ((i:Int)>0) then _ else _)=some r;cases i with
    |zero=>exact tail|succ k=>have hk:k<l.length:=RS;have hy:l[k]? =some l[k]:=fI hk;have hw:IntKind.wrap .i64 (((k+1:Nat):Int)-(1:Int))=((k:Nat):Int):=(by rw[show (((k+1:Nat):Int)-(1:Int))=((k:Nat):Int) by omega];rw[IntKind.wrap_i64];omega);rw[decide_eq_true (show ((k+1:Nat):Int)>0 by omega),hw,eG hy];show∃r,(bif _ then some (Sum.inr (6:Int)) else _)=some r;exact l8 ⟨_,rfl⟩ tail)
  (fun m _ i hi=>by show∃r,yX n s l (m+1) (i:Int)=some r;rw[anx,nW hi];exact⟨_,rfl⟩) l.length 0 n () RS RS
 have hr':yX n s l n (0:Int)=some r:=hr;rw[aB8,hr',Option.bind_some];cases r<;>exact⟨_,rfl⟩
def Gp (e:Entry):Prop:=(rI e.ID/\rI e.fM/\rI e.iF/\rI e.From/\rI e.To/\rI e.jo)/\(∀x∈e.Vec,rI x)/\∀a∈e.aX,rI a.Kind/\rI a.N
theorem Gp.all {e:Entry}(h:Gp e)(hv:rI e.iT):yZ e:=⟨⟨h.1.1,hv,h.1.2.1,h.1.2.2.1,h.1.2.2.2.1,h.1.2.2.2.2.1,h.1.2.2.2.2.2⟩,h.2.1,h.2.2⟩
def y5 (e:Entry)(n:Nat):Prop:=e.Vec.length<n/\e.Vec.length<2^62/\e.aX.length<n/\e.aX.length<2^62/\qI e.Vec e.aX/\Gp e
theorem aou {n:Nat}{s:aM}{e:Entry}(hs:rF s n)(h:y5 e n):∃r:Int,Kg n (s,e)=some r:=by obtain⟨h1,h2,h3,h4,_⟩:=h;obtain⟨b,hb⟩:=aDJ h1 h2;obtain⟨r,hr⟩:=aDM hs h3 h4;rw[aB9,hb,hr];exact l8 ⟨_,rfl⟩ (l8 ⟨_,rfl⟩ (l8 ⟨_,rfl⟩ ⟨_,rfl⟩))
theorem aov {n:Nat}{e:Entry}(hb:e.aX.length<2^62):∀(m i:Nat),DR n e m (i:Int)=some (.inl ())->∀j (hj:j<e.aX.length),i<=j->j<=20->e.aX[j].Name.length<=300/\e.aX[j].S.length<=300
 |0,i,h,_,_,_,_=>by rw[anf] at h;cases h|m+1,i,h,j,hj,hij,h20=>by
  rw[afj] at h;have hi:i<e.aX.length:=RS
  have e1:decide ((i:Int)< ((e.aX.length:Nat):Int))=true:=decide_eq_true RS;have e2:decide ((i:Int)<=(20:Int))=true:=decide_eq_true RS;have hx:e.aX[i]? =some e.aX[i]:=fI hi;rw[e1,e2,eG hx,fU RS] at h;simp only[cond_true,Option.bind_some] at h;cases hn:decide (((e.aX[i].Name.length:Nat):Int)> (300:Int)) with
  |true=>rw[hn] at h;simp only[Bool.not_true,nU,cond_false,cond_true,Option.bind_some] at h;cases h|false=>
   rw[hn] at h;simp only[Bool.not_false,nU,cond_true,cond_false,Option.bind_some] at h;cases hs:decide (((e.aX[i].S.length:Nat):Int)> (300:Int)) with
   |true=>rw[hs] at h;cases h|false=>
    rw[hs] at h;have h1:=of_decide_eq_false hn;have h2:=of_decide_eq_false hs;by_cases hji:j=i
    .subst hji;exact⟨RS,RS⟩
    .exact aov hb m (i+1) h j hj RS h20
theorem aDN {n:Nat}{e:Entry}(hb:e.aX.length<2^62)(h:Ka n e=some true):qI e.Vec e.aX:=by
 rw[ang] at h;obtain⟨r,hr,h⟩:=iP.1 h;cases r with
 |inr b=>
  have:∀(m i:Nat) b,i<=2^62->DR n e m (i:Int)=some (.inr b)->b=false:=by
   intro m;induction m with
   |zero=>intro i b _ h;rw[anf] at h;cases h|succ m ih=>
    intro i b hi h;rw[afj] at h;cases hc:(bif decide ((i:Int)< ((e.aX.length:Nat):Int)) then decide ((i:Int)<=(20:Int)) else false) with
    |false=>rw[hc] at h;cases h|true=>
     rw[hc] at h;have hlt:i<e.aX.length:=by
      cases hd:decide ((i:Int)< ((e.aX.length:Nat):Int)) with
      |false=>rw[hd] at hc;cases hc|true=>have:=of_decide_eq_true hd;omega
     rw[cond_true,fU RS] at h;obtain⟨x,_,h⟩:=iP.1 h;obtain⟨y,_,h⟩:=iP.1 h;revert h;cases (bif decide (((x.Name.length:Nat):Int)> (300:Int)) then true else decide (((y.S.length:Nat):Int)> (300:Int))) with
     |true=>intro h;cases h;rfl|false=>intro h;exact ih (i+1) b RS h
  have hb':=this n 0 b RS hr;subst hb';cases h
 |inl u=>
  have h':some (bif decide (((e.Vec.length:Nat):Int)<=(40:Int)) then decide (((e.aX.length:Nat):Int)<=(20:Int)) else false)=some true:=h;cases hv:decide (((e.Vec.length:Nat):Int)<=(40:Int)) with
  |false=>rw[hv] at h';cases h'|true=>rw[hv] at h';have h1:=of_decide_eq_true hv;have h2:=of_decide_eq_true (kS h');refine⟨RS,RS,fun x hx=>?_⟩;obtain⟨j,hj,rfl⟩:=GH.1 hx;exact aov hb n 0 hr j hj (pR _) RS
theorem aow {n:Nat}{l:List Event}{k:Int}(hb:l.length<2^62)(ha:∀e∈l,e.aX.length<2^62):∀(m i:Nat),yV n l k m (i:Int)=some (.inl ())->∀j (hj:j<l.length),i<=j->(j:Int)<=k->qI l[j].Vec l[j].aX
 |0,i,h,_,_,_,_=>by rw[anh] at h;cases h|m+1,i,h,j,hj,hij,hk=>by
  rw[Vw] at h;have hi:i<l.length:=RS
  have e1:decide ((i:Int)< (l.length:Int))=true:=decide_eq_true RS;have e2:decide ((i:Int)<=k)=true:=decide_eq_true RS;have hx:l[i]? =some l[i]:=fI hi;rw[e1,e2,eG hx,fU RS] at h;simp only[cond_true,Option.bind_some] at h;obtain⟨b,hf,h⟩:=iP.1 h;cases b with
  |false=>cases h|true=>
   by_cases hji:j=i
   .subst hji;exact aDN (e:=⟨0,0,0,0,0,0,0,l[j].Vec,l[j].aX⟩) (ha _ (lM _)) hf
   .exact aow hb ha m (i+1) h j hj RS hk
theorem aDO {n:Nat}{l:List Event}{k:Int}(hb:l.length<2^62)(ha:∀e∈l,e.aX.length<2^62)(h:Kc n (l,k)=some true):∀e∈l,qI e.Vec e.aX:=by
 rw[ani] at h;obtain⟨r,hr,h⟩:=iP.1 h;cases r with
 |inr b=>
  have:∀(m i:Nat) b,i<=2^62->yV n l k m (i:Int)=some (.inr b)->b=false:=by
   intro m;induction m with
   |zero=>intro i b _ h;rw[anh] at h;cases h|succ m ih=>
    intro i b hi h;rw[Vw] at h;cases hc:(bif decide ((i:Int)< (l.length:Int)) then decide ((i:Int)<=k) else false) with
    |false=>rw[hc] at h;cases h|true=>
     rw[hc] at h;have hlt:i<l.length:=by
      cases hd:decide ((i:Int)< (l.length:Int)) with
      |false=>rw[hd] at hc;cases hc|true=>have:=of_decide_eq_true hd;omega
     rw[cond_true,fU RS] at h;obtain⟨x,_,h⟩:=iP.1 h;obtain⟨y,_,h⟩:=iP.1 h;obtain⟨f,_,h⟩:=iP.1 h;revert h;cases f with
     |false=>intro h;cases h;rfl|true=>intro h;exact ih (i+1) b RS h
  have hb':=this n 0 b RS hr;subst hb';cases h
 |inl u=>have h':some (decide ((l.length:Int)<=k))=some true:=h;have h2:=of_decide_eq_true (kS h');intro x hx;obtain⟨j,hj,rfl⟩:=GH.1 hx;exact aow hb ha n 0 hr j hj (pR _) RS
def y7 (id rG commit:Int)(r:Row):Row:=if r.Entry.ID=id/\r.Entry.From=rG/\r.gN=0/\r.Entry.jo<commit then ⟨r.Entry,commit⟩ else r
theorem set_mid {U:Type}(a:List U)(x y:U)(b:List U):bf (a++x::b) (a.length:Int) y=a++y::b:=by unfold bf;rw[show ((a.length:Int)).toNat=a.length from rfl,List.set_append_right _ _ (iR _),Nat.sub_self];rfl
theorem aDP {n:Nat}{rows:List Row}{id rG commit:Int}(h:rows.length<n)(hb:rows.length<2^30):Kh n (rows,(id,(rG,commit)))=some (rows.map (y7 id rG commit)):=by
 have key:∀(b a:List Row)(m:Nat),a.length+b.length=rows.length->b.length<m->KH n id rG commit m ((a.length:Int),a++b)=some ((),a++b.map (y7 id rG commit)):=by
  intro b;induction b with
  |nil=>intro a m hl hm;obtain⟨m,rfl⟩:∃m',m=m'+1:=⟨m-1,by simp at hm;omega⟩;rw[anA,jD,zU];simp
  |cons x b ih=>
   intro a m hl hm;obtain⟨m,rfl⟩:∃m',m=m'+1:=⟨m-1,by simp at hm;omega⟩;simp only[List.length_cons] at hl hm;have hx:(a++x::b)[a.length]? =some x:=aD
   have hin:=Ug (pI hx);have ih':=fun y=>ih (a++[y]) m dw RS;have e0:∀y,(((a++[y]).length:Nat):Int)=((a.length+1:Nat):Int):=fun y=>aD
   rw[anA,iU hx,cond_true,hin,cond_true];refine bs (eG hx) ?_;have imp:∀b:Bool,MO b true=true:=fun b=>by cases b<;>rfl
   have hw:∀(c:Bool)(d:Row),nU c (aG (a++x::b) (a.length:Int)) d=some (bif c then x else d):=fun c d=>by rw[eG hx];exact Uh
   rw[imp,cond_true];refine bs (hw _ _) ?_;rw[imp,cond_true];refine bs (hw _ _) ?_;rw[imp,cond_true];refine bs (hw _ _) ?_;have hset:bf (a++x::b) (a.length:Int) (⟨x.Entry,commit⟩:Row)=a++[(⟨x.Entry,commit⟩:Row)]++b:=by rw[set_mid];simp
   by_cases c1:x.Entry.ID=id
   .have e1:(x.Entry.ID==id)=true:=(by simpa using c1);simp only[e1,cond_true];by_cases c2:x.Entry.From=rG
    .have e2:(x.Entry.From==rG)=true:=(by simpa using c2);simp only[e2,cond_true];by_cases c3:x.gN=0
     .have e3:(x.gN==(0:Int))=true:=(by simpa using c3);simp only[e3,cond_true];by_cases c4:x.Entry.jo<commit
      .rw[decide_eq_true c4,cond_true];refine bs (eG hx) ?_;rw[fU RS,hset,<-e0,ih'];simp[y7,c1,c2,c3,c4]
      .rw[decide_eq_false c4,cond_false,fU RS,show a++x::b=a++[x]++b by simp,<-e0 x,ih'];simp[y7,c1,c2,c3,c4]
     .have e3:(x.gN==(0:Int))=false:=(by simpa using c3);simp only[e3,cond_false];rw[fU RS,show a++x::b=a++[x]++b by simp,<-e0 x,ih'];simp[y7,c3]
    .have e2:(x.Entry.From==rG)=false:=(by simpa using c2);simp only[e2,cond_false];rw[fU RS,show a++x::b=a++[x]++b by simp,<-e0 x,ih'];simp[y7,c2]
   .have e1:(x.Entry.ID==id)=false:=(by simpa using c1);simp only[e1,cond_false];rw[fU RS,show a++x::b=a++[x]++b by simp,<-e0 x,ih'];simp[y7,c1]
 rw[aCb,uR hb RS,cond_true];exact bs (key rows [] n aD h) rfl
theorem aox {U:Type}{l:List U}{i:Int}{x y:U}(h:y∈bf l i x):y∈l\/y=x:=by unfold bf at h;exact List.mem_or_eq_of_mem_set h
theorem xR {U:Type}(l:List U)(i:Int)(x:U):(bf l i x).length=l.length:=by unfold bf;simp
theorem aDQ {n:Nat}{b:Book}{id i:Int}{x:Row}(hx:aG b.Rows i=some x):∀(k m:Nat)(out:List Row),k<out.length->k<m->k<2^62->(∀r∈out,r∈b.Rows/\r.Entry.ID=id)->
 ∃(k':Nat) (out':List Row),Pz n b id i m ((k:Int),out)=some ((k':Int),out')/\k'<out'.length/\out'.length=out.length/\∀r∈out',r∈b.Rows/\r.Entry.ID=id:=by
 intro k;induction k with
 |zero=>intro m out hk hm hb ho;obtain⟨m,rfl⟩:∃m',m=m'+1:=⟨m-1,RS⟩;exact⟨0,out,by rw[anB];rfl,hk,rfl,ho⟩
 |succ k ih=>
  intro m out hk hm hb ho;obtain⟨m,rfl⟩:∃m',m=m'+1:=⟨m-1,RS⟩;have hk1:k<out.length:=RS
  have hy:aG out ((k:Nat):Int)=some out[k]:=by rw[F3,fI hk1]
  have hz:aG out (((k+1:Nat)):Int)=some out[k+1]:=by rw[F3,fI hk]
  have hym:out[k]∈out:=lM hk1;generalize out[k]=y at hy hym;generalize out[k+1]=z at hz;have hw:IntKind.wrap .i64 (((k+1:Nat):Int)-(1:Int))=((k:Nat):Int):=by rw[Ui RS hb];rfl
  rw[anB,decide_eq_true RS,cond_true,hw,Ug hk1,cond_true];by_cases c:y.Entry.From>x.Entry.From
  .obtain⟨k',out',h1,h2,h3,h4⟩:=ih m (bf out ((k+1:Nat):Int) y) (by rw[xR];exact hk1) RS RS (fun r hr=>by
    rcases aox hr with h|h
    .exact ho r h
    .rw[h];exact ho y hym)
   refine⟨k',out',?_,h2,by rw[h3,xR],h4⟩;refine bs hy (bs hx ?_);rw[decide_eq_true c,cond_true];refine bs hy ?_;rw[Ug hk,cond_true];exact bs hz h1
  .refine⟨k+1,out,?_,hk,rfl,ho⟩;refine bs hy (bs hx ?_);rw[decide_eq_false c,cond_false]
theorem aDR {n:Nat}{b:Book}{id:Int}(h:b.Rows.length<n)(hb:b.Rows.length<2^29):∃l:List Row,Dz n (b,id)=some l/\l.length<=b.Rows.length/\∀r∈l,r∈b.Rows/\r.Entry.ID=id:=by
 have key:∀(k i m:Nat)(out:List Row),i+k=b.Rows.length->k<m->out.length<=i->(∀r∈out,r∈b.Rows/\r.Entry.ID=id)->∃q:PUnit×List Row,Gh n b id m (((),(i:Int)),out)=some q/\q.2.length<=b.Rows.length/\∀r∈q.2,r∈b.Rows/\r.Entry.ID=id:=by
  intro k;induction k with
  |zero=>intro i m out hi hm ho hr;obtain⟨m,rfl⟩:∃m',m=m'+1:=⟨m-1,RS⟩;exact⟨((),out),by rw[anC,decide_eq_false RS];rfl,by show out.length<=_;omega,hr⟩
  |succ k ih=>
   intro i m out hi hm ho hr;obtain⟨m,rfl⟩:∃m',m=m'+1:=⟨m-1,RS⟩;have hlt:i<b.Rows.length:=RS
   have hx:aG b.Rows (i:Int)=some b.Rows[i]:=by rw[F3,fI hlt]
   have hxm:b.Rows[i]∈b.Rows:=lM hlt;generalize b.Rows[i]=x at hx hxm;have hw:∀(c:Bool)(d:Row),nU c (aG b.Rows ((i:Nat):Int)) d=some (bif c then x else d):=fun c d=>by rw[hx];exact Uh
   have next:∀out':List Row,out'.length<=i+1->(∀r∈out',r∈b.Rows/\r.Entry.ID=id)->∃q:PUnit×List Row,Gh n b id m (((),IntKind.wrap .i64 ((i:Int)+(1:Int))),out')=some q/\q.2.length<=b.Rows.length/\∀r∈q.2,r∈b.Rows/\r.Entry.ID=id:=fun out' h1 h2=>by rw[fU RS];exact ih (i+1) m out' RS RS h1 h2
   rw[anC,decide_eq_true RS,cond_true];refine fO ⟨x,hx,?_⟩;refine fO ⟨_,hw _ _,?_⟩;refine kF (fun hid=>?_) (fun _=>next out RS hr);have hid:x.Entry.ID=id:=by
    cases h:(x.Entry.ID==id)
    .rw[h] at hid;cases hid
    .simpa using h
   refine fO ⟨x,hx,?_⟩;rw[uR (show out.length+[x].length<2^30 by simp;omega) RS,cond_true];obtain⟨k',out',h1,h2,h3,h4⟩:=aDQ (n:=n) (b:=b) (id:=id) hx out.length n (out++[x]) aD RS RS (fun r hr'=>by
    rcases rH.1 hr' with h|h
    .exact hr r h
    .simp at h;rw[h];exact⟨hxm,hid⟩)
   refine fO ⟨_,h1,?_⟩;refine fO ⟨x,hx,?_⟩;dsimp only;rw[Ug h2,cond_true];refine fO ⟨out'[k'],by rw[F3,fI h2],?_⟩;refine next _ (by rw[xR,h3];simp;omega) (fun r hr'=>?_);rcases aox hr' with h|h
   .exact h4 r h
   .rw[h];exact⟨hxm,hid⟩
 obtain⟨l,h1,h2,h3⟩:=key b.Rows.length 0 n [] RS h aD aD;exact⟨l.2,by rw[aCe];exact bs h1 rfl,h2,h3⟩
theorem KW {U:Type}{P:U->Prop}{a k:Nat}{o:Option U}(ho:∃r,o=some r/\P r)(h:a<2^31)(hk:k<=2^12:=by omega):∃r,(bif bZ a k then o else none)=some r/\P r:=by
 have:bZ a k=true:=by
  unfold bZ;have h1:a*k<=2^31*2^12:=Nat.mul_le_mul (Nat.le_of_lt h) hk;have e:(2:Nat)^31*2^12<=2^47:=aK
  rw[aZ,decide_eq_true_iff,decide_eq_true_iff];exact⟨RS,RS⟩
 rw[this];exact ho
def Dd (c:Int)(r r':Row):Prop:=r'=r\/(r.gN=0/\r'=⟨r.Entry,c⟩)
theorem Dd.entry {c:Int}{r r':Row}(h:Dd c r r'):r'.Entry=r.Entry:=by rcases h with h| ⟨_,h⟩<;>rw[h]
theorem aDS (id rG c:Int)(r:Row):Dd c r (y7 id rG c r):=by
 unfold y7;split
 .rename_i h;exact .inr ⟨h.2.2.1,rfl⟩
 .exact .inl rfl
theorem Dd.trans {c:Int}(hc:c≠0){r r1 r2:Row}(h:Dd c r r1)(g:Dd c r1 r2):Dd c r r2:=by
 rcases h with rfl| ⟨h1,rfl⟩
 .exact g
 .rcases g with rfl| ⟨g1,_⟩
  .exact .inr ⟨h1,rfl⟩
  .exact absurd g1 hc
structure CI (n:Nat)(e:Event)(mK:List Row)(v:Int)(i:Nat)(ver:Int)(rows added:List Row):Prop where
 f:∃f:Row->Row,rows=mK.map f/\∀r,Dd e.bN r (f r)
 v1:v<=ver
 v2:ver<=v+i
 len:added.length<=i
 add:∀r∈added,r.gN=0/\y5 r.Entry n/\r.Entry.ID=e.ID/\v<r.Entry.iT/\r.Entry.iT<=ver
theorem CI.length {n:Nat}{e:Event}{mK:List Row}{v:Int}{i:Nat}{ver:Int}{rows added:List Row}(h:CI n e mK v i ver rows added):rows.length=mK.length:=by obtain⟨f,rfl,_⟩:=h.f;simp
theorem CI.die {n:Nat}{e:Event}{mK:List Row}{v:Int}{i:Nat}{ver:Int}{rows added:List Row}(h:CI n e mK v i ver rows added)(hc:1<=e.bN)(rG:Int):CI n e mK v i ver (rows.map (y7 e.ID rG e.bN)) added:=by obtain⟨f,rfl,hf⟩:=h.f;exact {h with f:=⟨fun r=>y7 e.ID rG e.bN (f r),by rw[Ap];rfl,fun r=>(hf r).trans RS (aDS _ _ _ _)⟩}
theorem CI.next {n:Nat}{e:Event}{mK:List Row}{v:Int}{i:Nat}{ver:Int}{rows added:List Row}(h:CI n e mK v i ver rows added):CI n e mK v (i+1) ver rows added:=
 {h with v2:=by have:=h.v2;omega,len:=by have:=h.len;omega}
theorem CI.push {n:Nat}{e:Event}{mK:List Row}{v:Int}{i:Nat}{ver:Int}{rows added:List Row}(h:CI n e mK v i ver rows added){y:Row}(h1:y.gN=0)(h2:y5 y.Entry n)(h3:y.Entry.ID=e.ID)(h4:y.Entry.iT=ver+1):CI n e mK v (i+1) (ver+1) rows (added++[y]):=by
 have v1:=h.v1;have v2:=h.v2;have len:=h.len;refine⟨h.f,RS,RS,xV,fun r hr=>?_⟩
 .rcases rH.1 hr with hr|hr
  .obtain⟨a1,a2,a3,a4,a5⟩:=h.add r hr;exact⟨a1,a2,a3,a4,RS⟩
  .rw[iZ.1 hr];exact⟨h1,h2,h3,RS,RS⟩
theorem aDT {n:Nat}{x:Entry}{v f t c:Int}(h:y5 x n)(h1:rI f)(h2:rI t)(h3:rI c):y5 (⟨x.ID,v,x.fM,x.iF,f,t,c,x.Vec,x.aX⟩:Entry) n:=⟨h.1,h.2.1,h.2.2.1,h.2.2.2.1,h.2.2.2.2.1,⟨h.2.2.2.2.2.1.1,h.2.2.2.2.2.1.2.1,h.2.2.2.2.2.1.2.2.1,h1,h2,h3⟩,h.2.2.2.2.2.2⟩
theorem aDU {n:Nat}{b:Book}{e:Event}{l:List Row}{to:List dX}{more:Entry}{mK:List Row}{v:Int}(hn:2^20<n)(hl:l.length<=65536)(hlt:to.length=l.length)(hlr:∀r∈l,y5 r.Entry n/\r.Entry.ID=e.ID)(hto:∀d∈to,rI d.from_/\rI d.to)(hc2:rI e.bN)(hc:1<=e.bN)(hr0:mK.length<=65536)(hv0:0<=v)(hv1:v<2^50):
 ∀(k i m:Nat)(ver:Int)(rows added:List Row),i+k=l.length->k<m->CI n e mK v i ver rows added->
 ∃q:Int×(List Row)×List Row,xL n b e l to more m (ver,(rows,(added,(i:Int))))=some q/\CI n e mK v l.length q.1 q.2.1 q.2.2:=by
 intro k;induction k with
 |zero=>
  intro i m ver rows added hi hm h1;obtain⟨m,rfl⟩:∃m',m=m'+1:=⟨m-1,RS⟩;obtain rfl:i=l.length:=RS
  exact⟨_,by rw[afk,decide_eq_false RS];rfl,h1⟩
 |succ k ih=>
  intro i m ver rows added hi hm h1;obtain⟨m,rfl⟩:∃m',m=m'+1:=⟨m-1,RS⟩;have hrl:=h1.length;have v1:=h1.v1;have v2:=h1.v2;have hal:=h1.len;obtain⟨x,hx,hxm⟩:=Dt (l:=l) (i:=i) RS;obtain⟨d,hd,aoy⟩:=Dt (l:=to) (i:=i) RS;have aoz:=fun rG=>aDP (n:=n) (rows:=rows) (id:=e.ID) (rG:=rG) (commit:=e.bN) RS RS;have nx:∀(ver:Int)(rows' tO:List Row),CI n e mK v (i+1) ver rows' tO->
   ∃q:Int×(List Row)×List Row,xL n b e l to more m (ver,(rows',(tO,IntKind.wrap .i64 ((i:Int)+(1:Int)))))=some q/\CI n e mK v l.length q.1 q.2.1 q.2.2:=fun ver rows' tO k1=>by
   rw[fU RS];exact ih (i+1) m ver rows' tO RS RS k1
  have hw:IntKind.wrap .i64 (ver+(1:Int))=ver+1:=gX RS RS;have grow:∀(c:Bool)(rows':List Row),CI n e mK v i ver rows' added->∃q:Int×(List Row)×List Row,(bif c then (aG to (i:Int)).bind fun (lZ:dX)=>(aG to (i:Int)).bind fun (gD:dX)=>bif bZ (added.length+([(⟨(⟨x.Entry.ID,ver+1,x.Entry.fM,x.Entry.iF,lZ.from_,gD.to,e.bN,x.Entry.Vec,x.Entry.aX⟩:Entry),(0:Int)⟩:Row)].length)) 112 then xL n b e l to more m ((ver+1,(rows',(added++[(⟨(⟨x.Entry.ID,ver+1,x.Entry.fM,x.Entry.iF,lZ.from_,gD.to,e.bN,x.Entry.Vec,x.Entry.aX⟩:Entry),(0:Int)⟩:Row)],Go.IntKind.wrap .i64 ((i:Int)+(1:Int))))))else none else xL n b e l to more m ((ver,(rows',(added,Go.IntKind.wrap .i64 ((i:Int)+(1:Int)))))))=some q/\CI n e mK v l.length q.1 q.2.1 q.2.2:=by
   intro c rows' k1;refine kF (fun _=>?_) (fun _=>nx _ _ _ k1.next);refine fO ⟨d,hd,?_⟩;refine fO ⟨d,hd,?_⟩;exact KW (nx _ _ _ (k1.push rfl (aDT (hlr x hxm).1 (hto d aoy).1 (hto d aoy).2 hc2) (hlr x hxm).2 rfl)) dw
  rw[afk,decide_eq_true RS,cond_true,hw];refine fO ⟨x,hx,?_⟩;refine fO ⟨d,hd,?_⟩;refine kF (fun _=>?_) (fun _=>?_)
  .refine fO ⟨d,hd,?_⟩;refine kF (fun _=>nx _ _ _ h1.next) (fun _=>?_);refine fO ⟨_,aoz _,?_⟩;refine fO ⟨d,hd,?_⟩;refine fO ⟨d,hd,?_⟩;exact grow _ _ (h1.die hc _)
  .refine fO ⟨_,aoz _,?_⟩;refine fO ⟨d,hd,?_⟩;refine fO ⟨d,hd,?_⟩;exact grow _ _ (h1.die hc _)
theorem aDV {n:Nat}{b:Book}{id V:Int}(h:b.Rows.length<n)(hb:b.Rows.length<2^62)(hV:∀r∈b.Rows,r.Entry.iT<=V)(aDW:0<=V):∃v:Int,Zs n (b,id)=some v/\0<=v/\v<=V/\∀r∈b.Rows,r.Entry.ID=id->r.Entry.iT<=v:=by
 have key:∀(k i m:Nat)(s:Int),i+k=b.Rows.length->k<m->0<=s->s<=V->(∀r∈b.Rows.take i,r.Entry.ID=id->r.Entry.iT<=s)->∃v:Int,KG n b id m (s,(i:Int))=some v/\0<=v/\v<=V/\∀r∈b.Rows,r.Entry.ID=id->r.Entry.iT<=v:=by
  intro k;induction k with
  |zero=>intro i m s hi hm h0 h1 h2;obtain⟨m,rfl⟩:∃m',m=m'+1:=⟨m-1,RS⟩;rw[anz,decide_eq_false RS];rw[rJ RS] at h2;exact⟨s,rfl,h0,h1,h2⟩
  |succ k ih=>
   intro i m s hi hm h0 h1 h2;obtain⟨m,rfl⟩:∃m',m=m'+1:=⟨m-1,RS⟩;have hlt:i<b.Rows.length:=RS
   have hx:b.Rows[i]? =some b.Rows[i]:=fI hlt;have hxm:b.Rows[i]∈b.Rows:=lM hlt;have ht:b.Rows.take (i+1)=b.Rows.take i++[b.Rows[i]]:=by rw[List.take_add_one,hx];rfl
   have aGd:=hV _ hxm;rw[anz,iU hx,fU RS,cond_true];refine fO ⟨_,eG hx,?_⟩;refine kF (fun hid=>?_) (fun hid=>?_)
   .refine fO ⟨_,eG hx,?_⟩;refine ih (i+1) m _ RS RS (by unfold imax;split<;>omega) (by unfold imax;split<;>omega) (fun r hr hr2=>?_);rw[ht] at hr;rcases rH.1 hr with hr|hr
    .have:=h2 r hr hr2;unfold imax;split<;>omega
    .rw[iZ.1 hr];unfold imax;split<;>omega
   .refine ih (i+1) m _ RS RS h0 h1 (fun r hr hr2=>?_);rw[ht] at hr;rcases rH.1 hr with hr|hr
    .exact h2 r hr hr2
    .rw[iZ.1 hr] at hr2;rw[hr2] at hid;simp at hid
 obtain⟨v,h1,h2⟩:=key b.Rows.length 0 n 0 RS h (lN _) aDW aD;exact⟨v,by rw[aCa];exact bs h1 rfl,h2⟩
end Sh
end
