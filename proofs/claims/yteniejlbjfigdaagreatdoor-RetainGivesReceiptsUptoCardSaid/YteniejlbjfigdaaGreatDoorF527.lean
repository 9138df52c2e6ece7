import Derived.Test.YteniejlbjfigdaaGreatDoorF526
set_option linter.all false
section
open Go Go.Proofs aR
namespace Sh
set_option maxRecDepth 100000
theorem ada (x y:aC):zJ x y=((x.b0==y.b0)&& ((x.b1==y.b1)&& ((x.b2==y.b2)&& ((x.b3==y.b3)&& ((x.b4==y.b4)&& ((x.b5==y.b5)&& ((x.b6==y.b6)&& ((x.b7==y.b7)&& ((x.b8==y.b8)&& ((x.b9==y.b9)&& ((x.b10==y.b10)&& ((x.b11==y.b11)&& ((x.b12==y.b12)&& ((x.b13==y.b13)&& ((x.b14==y.b14)&& ((x.b15==y.b15)&& true)))))))))))))))):=by
 cases x;cases y;kernel_rfl
theorem alr (x y:aC):zJ x y=true↔x=y:=by rw[ada];cases x;cases y;simp only[aZ,beq_iff_eq,aC.mk.injEq,and_true]
def adb (a b:aC):aC:=pR 31 [nS a,nS b]
def Pm:aC:=pR 32 []
theorem ayY {n:Nat}(a b:aC)(hn:2^20<n):Jp n (a,b)=some (adb a b):=by
 have la:(nS a).length=16:=rfl;have lb:(nS b).length=16:=rfl;have le:∀d:aC,(fu (nS d)).length=17:=fun d=>rfl;have hsz:iY fu [nS a,nS b]=34:=by show (fu (nS a)).length+((fu (nS b)).length+0)=34;rw[le,le]
 rw[ai3];refine bs (JF (n:=n) (t:=31) (ls:=[nS a,nS b]) (fun x hx=>?_) (by rw[hsz];decide) (by rw[hsz];omega) (by show 2<n;omega) RS (by show 2<2^62;decide)) rfl;rcases iC.1 hx with rfl|hx
 .omega
 .rw[iZ.1 hx];omega
theorem ayZ {n:Nat}(hn:2^20<n):Oq n ()=some Pm:=by rw[ayp];exact bs (JF (n:=n) (t:=32) (ls:=[]) (fun x hx=>Ed) aL (by show 0<n;omega) (by show 0<n;omega) RS aL) rfl
def lq:Nat->List aC->aC
 |0,_=>Pm|g+1,l=>if l.length=0 then Pm else if l.length=1 then l.headD Pm else adb (lq g (l.take (fA l.length))) (lq g (l.drop (fA l.length)))
theorem ay0 {l:List aC}(h:l.length=1):aK l 0=some (l.headD Pm):=by
 cases l with
 |nil=>simp at h|cons a l=>unfold aK;rw[if_pos ⟨yV 0,aB⟩];rfl
theorem ay1 {n:Nat}(hn:2^20<n):∀(g:Nat)(l:List aC),l.length<g->l.length<=65536->Dy n g l=some (lq g l):=by
 intro g;induction g with
 |zero=>intro l h;omega|succ g ih=>
  intro l h hb;rw[ayq];unfold lq;by_cases h0:l.length=0
  .rw[if_pos h0,h0,show ((((0:Nat):Int))==0)=true from rfl,cond_true];exact bs (ayZ hn) rfl
  .rw[if_neg h0,show ((l.length:Int)==0)=false by rw[beq_eq_false_iff_ne];omega,cond_false];by_cases h1:l.length=1
   .rw[if_pos h1,show ((l.length:Int)==1)=true by rw[beq_iff_eq];omega,cond_true];exact bs (ay0 h1) rfl
   .rw[if_neg h1,show ((l.length:Int)==1)=false by rw[beq_eq_false_iff_ne];omega,cond_false];obtain⟨k1,k2⟩:=TJ (n:=l.length) RS;refine bs (ND RS RS) ?_;rw[Int.toNat_natCast,Int.toNat_natCast,Dj (i:=((fA l.length:Nat):Int)) (n:=l.length) ⟨RS,RS⟩,Dj (i:=((fA l.length:Nat):Int)) (n:=fA l.length) ⟨RS,RS⟩,Dj (i:=(l.length:Int)) (n:=l.length) ⟨RS,RS⟩];refine gR rfl (bs (ih (l.take (fA l.length)) oD oD) (gR rfl ?_));have hd:List.drop (fA l.length) (List.take l.length l)=l.drop (fA l.length):=(by rw[List.take_length]);refine bs (o:=Dy n g _) (a:=lq g (l.drop (fA l.length))) ?_ (bs (ayY _ _ hn) rfl);exact(congrArg (Dy n g) hd).trans (ih (l.drop (fA l.length)) pq pq)
theorem UC {n:Nat}{l:List aC}(hn:2^20<n)(hb:l.length<=65536):zV n l=some (lq n l):=by unfold zV;exact ay1 hn n l RS hb
theorem UD (root:List aC->Option aC)(split:Int->Option Int)(g:Nat)(l:List aC)(i:Int):xq root split (g+1) l i=bif Nat.beq l.length 1 then some [] else (split (l.length:Int)).bind fun k=>bif decide (0<=k/\k<=(l.length:Int)) then (bif decide (i<k) then (xq root split g (l.take k.toNat) i).bind fun p=>(root (l.drop k.toNat)).map fun d=>p++[d]else (xq root split g (l.drop k.toNat) (IntKind.wrap .i64 (i-k))).bind fun p=>(root (l.take k.toNat)).map fun d=>p++[d]) else none:=rfl
theorem ay2 {n:Nat}(hn:2^20<n):∀(g:Nat)(l:List aC)(i:Int),l.length<g->1<=l.length->l.length<=65536->0<=i->i< (l.length:Nat)->∃p:List aC,xq (zV n) (ZD n) g l i=some p/\p.length<l.length+1:=by
 intro g;induction g with
 |zero=>intro l i h;omega|succ g ih=>
  intro l i h h1 hb i0 i1;by_cases he:l.length=1
  .refine⟨[],(UD _ _ _ _ _).trans (kG (by rw[he];rfl) rfl),aB⟩
  .obtain⟨k1,k2⟩:=TJ (n:=l.length) RS;have hne:Nat.beq l.length 1=false:=by
    cases hq:Nat.beq l.length 1 with
    |false=>rfl|true=>exact absurd (yS hq) he
   have hk:decide ((0:Int)<=((fA l.length:Nat):Int)/\((fA l.length:Nat):Int)<=(l.length:Int))=true:=decide_eq_true ⟨RS,RS⟩;cases hik:decide (i< ((fA l.length:Nat):Int)) with
   |true=>have hik':=of_decide_eq_true hik;obtain⟨p,e1,e3⟩:=ih (l.take (fA l.length)) i oD oD oD i0 oD;rw[jV] at e3;have e4:=UC (n:=n) (l:=l.drop (fA l.length)) hn pq;refine⟨p++[lq n (l.drop (fA l.length))],?_,wh⟩;refine(UD _ _ _ _ _).trans (mP hne (bs (ND RS RS) (kG hk (kG hik ?_))));rw[Int.toNat_natCast];refine bs e1 ?_;exact congrArg (fun o:Option aC=>o.map fun d=>p++[d]) e4
   |false=>have hik':=of_decide_eq_false hik;obtain⟨p,e1,e3⟩:=ih (l.drop (fA l.length)) (i-((fA l.length:Nat):Int)) pq pq pq RS pq;rw[nV] at e3;have e4:=UC (n:=n) (l:=l.take (fA l.length)) hn oD;refine⟨p++[lq n (l.take (fA l.length))],?_,wh⟩;refine(UD _ _ _ _ _).trans (mP hne (bs (ND RS RS) (kG hk (mP hik ?_))));rw[Int.toNat_natCast,iy (i:=i-((fA l.length:Nat):Int)) RS RS];refine bs e1 ?_;exact congrArg (fun o:Option aC=>o.map fun d=>p++[d]) e4
theorem ay3 {n:Nat}{l:List aC}{i:Nat}(hn:2^20<n)(hb:l.length<=65536)(hi:i<l.length):∃p:List aC,Dz n (l,(i:Int))=some (p,(0:Int))/\p.length<=65536:=by rw[aky];unfold JL;rw[decide_eq_false (show¬(i:Int)<0 by omega),Bool.false_or,decide_eq_false (show¬(i:Int)>=(l.length:Nat) by omega),cond_false,decide_eq_true (show l.length<2^29 by omega),cond_true];obtain⟨p,e1,e3⟩:=ay2 hn (l.length+1) l i RS RS hb RS RS;exact⟨p,by rw[e1];rfl,RS⟩
theorem Pn:∀(g g':Nat)(l:List aC),l.length<g->l.length<g'->lq g l=lq g' l:=by
 intro g;induction g with
 |zero=>intro g' l h;omega|succ g ih=>
  intro g' l h h';obtain⟨g',rfl⟩:∃m,g'=m+1:=⟨g'-1,RS⟩;unfold lq;by_cases h0:l.length=0
  .rw[if_pos h0,if_pos h0]
  .rw[if_neg h0,if_neg h0];by_cases h1:l.length=1
   .rw[if_pos h1,if_pos h1]
   .rw[if_neg h1,if_neg h1];obtain⟨k1,k2⟩:=TJ (n:=l.length) RS;rw[ih g' (l.take (fA l.length)) oD oD,ih g' (l.drop (fA l.length)) pq pq]
theorem als (p:List aC)(d:aC):qQ (p++[d])=d:=by unfold qQ;rw[List.getLast?_concat];rfl
theorem ay4 {n:Nat}(hn:2^20<n){x:aC}{root:List aC->Option aC}{split:Int->Option Int}(alu:∀l:List aC,l.length<=65536->root l=some (lq n l))(ay5:∀k:Nat,2<=k->k<=65536->split ((k:Nat):Int)=some ((fA k:Nat):Int)):∀(g g2:Nat)(l:List aC)(i:Nat)(p:List aC),l.length<g->l.length<=g2->l.length<=65536->l[i]? =some x->xq root split g l (i:Int)=some p->
 C9 MX Da x g2 (i:Int) (l.length:Int) p false=some (lq (l.length+1) l,([],false)):=by
 intro g;induction g with
 |zero=>intro g2 l i p h;omega|succ g ih=>
  intro g2 l i p h h2 hb hx hp;have hlt:=ou hx;obtain⟨g2,rfl⟩:∃m,g2=m+1:=⟨g2-1,RS⟩;rw[UD] at hp;unfold C9;by_cases he:l.length=1
  .rw[show Nat.beq l.length 1=true by rw[he];rfl,cond_true] at hp;cases hp;rw[show ((l.length:Int)==1)=true by rw[beq_iff_eq];omega,cond_true];have hi:i=0:=RS
   subst hi;have:lq (l.length+1) l=x:=by
    unfold lq;rw[if_neg RS,if_pos he];cases l with
    |nil=>simp at he|cons a l=>simpa using hx
   rw[this]
  .have hne:Nat.beq l.length 1=false:=by
    cases hq:Nat.beq l.length 1 with
    |false=>rfl|true=>exact absurd (yS hq) he
   have hn1:((l.length:Int)==1)=false:=by rw[beq_eq_false_iff_ne];omega
   obtain⟨k1,k2⟩:=TJ (n:=l.length) RS;have hk:decide ((0:Int)<=((fA l.length:Nat):Int)/\((fA l.length:Nat):Int)<=(l.length:Int))=true:=decide_eq_true ⟨RS,RS⟩;have hS:Da (l.length:Int)=some ((fA l.length:Nat):Int):=by unfold Da;rw[if_pos ⟨RS,RS⟩,Int.toNat_natCast]
   have hroot:lq (l.length+1) l=adb (lq l.length (l.take (fA l.length))) (lq l.length (l.drop (fA l.length))):=by
    conv=>lhs;unfold lq
    rw[if_neg RS,if_neg he]
   rw[hne,cond_false,ay5 _ RS RS,Option.bind_some,hk,cond_true] at hp;rw[hn1,cond_false,hS,Option.bind_some,hroot];cases hik:decide ((i:Int)< ((fA l.length:Nat):Int)) with
   |true=>have hik':=of_decide_eq_true hik;rw[hik,cond_true,Int.toNat_natCast,alu _ pq] at hp;obtain⟨p',hp1,hp2⟩:=iR.1 hp;cases hp2;have hx':(l.take (fA l.length))[i]? =some x:=(by rw[List.getElem?_take_of_lt RS];exact hx);have e:=ih g2 (l.take (fA l.length)) i p' oD oD oD hx' hp1;rw[jV,wC RS] at e;rw[cond_true,List.dropLast_concat,show (p'++[lq n (l.drop (fA l.length))]).isEmpty=false by simp,Bool.or_false,e,Option.bind_some,als,Pn (fA l.length+1) l.length (l.take (fA l.length)) oD oD,Pn n l.length (l.drop (fA l.length)) pq pq];rfl
   |false=>have hik':=of_decide_eq_false hik;rw[hik,cond_false,Int.toNat_natCast,alu _ oD,iy RS RS,show (i:Int)-((fA l.length:Nat):Int)=((i-fA l.length:Nat):Int) by omega] at hp;obtain⟨p',hp1,hp2⟩:=iR.1 hp;cases hp2;have hx':(l.drop (fA l.length))[i-fA l.length]? =some x:=(by rw[List.getElem?_drop,show fA l.length+(i-fA l.length)=i by omega];exact hx);have e:=ih g2 (l.drop (fA l.length)) (i-fA l.length) p' pq pq pq hx' hp1;rw[nV] at e;rw[cond_false,iy RS RS,iy RS RS,show (i:Int)-((fA l.length:Nat):Int)=((i-fA l.length:Nat):Int) by omega,show (l.length:Int)-((fA l.length:Nat):Int)=((l.length-fA l.length:Nat):Int) by omega,List.dropLast_concat,show (p'++[lq n (l.take (fA l.length))]).isEmpty=false by simp,Bool.or_false,e,Option.bind_some,als,Pn (l.length-fA l.length+1) l.length (l.drop (fA l.length)) pq pq,Pn n l.length (l.take (fA l.length)) oD oD];rfl
theorem ay6 {n:Nat}(hn:2^20<n){l:List aC}{i:Nat}{x:aC}{p:List aC}(hb:l.length<=65536)(hx:l[i]? =some x)(hpl:p.length<=65536)(hp:Dz n (l,(i:Int))=some (p,(0:Int))):DC n (x,((i:Int),((l.length:Int),(p,lq n l))))=some true:=by have hlt:=ou hx;have hm:DC n (x,((i:Int),((l.length:Int),(p,lq n l))))=zK x (i:Int) (l.length:Int) p (lq n l):=axh n _;rw[hm];rw[aky] at hp;unfold JL at hp;rw[decide_eq_false (show¬(i:Int)<0 by omega),Bool.false_or,decide_eq_false (show¬(i:Int)>=(l.length:Int) by omega),cond_false,decide_eq_true (show l.length<2^29 by omega),cond_true] at hp;obtain⟨p',hp1,hp2⟩:=aW.1 hp;cases hp2;have e:=ay4 hn (root:=zV n) (split:=ZD n) (fun l h=>UC hn h) (fun k h h'=>ND h RS) (l.length+1) l.length l i p RS (mF _) hb hx hp1;unfold zK;rw[if_pos RS];unfold MW;rw[decide_eq_false (show¬(l.length:Int)<1 by omega),decide_eq_false (show¬(l.length:Int)>1099511627776 by omega),decide_eq_false (show¬(i:Int)<0 by omega),decide_eq_false (show¬(i:Int)>=(l.length:Int) by omega)];show (C9 MX Da x (l.length:Int).toNat (i:Int) (l.length:Int) p false).map _=_;rw[Int.toNat_natCast,e,Option.map_some,Pn (l.length+1) n l RS RS,(alr _ _).2 rfl];rfl
attribute [local irreducible] pR
def rQ (ls:List (List Int)):Nat:=ls.foldr (fun l s=>l.length+s) 0
theorem UE {ls:List (List Int)}{i:Nat}{x:List Int}(h:ls[i]? =some x):rQ (ls.drop i)=x.length+rQ (ls.drop (i+1)):=by
 have hlt:=ou h;rw[nW hlt];have:ls[i]=x:=by rw[gG hlt] at h;exact jW h
 rw[this];rfl
theorem ay7 {u:Unit}{k:Int}(h0:0<=k)(h1:k<=2^40):Jd (u,k)=some []:=by unfold Jd Jc;exact if_pos ⟨h0,h1⟩
theorem ay8 {u:Unit}{k:Int}(h0:0<=k)(h1:k<=2^40):Je (u,k)=some []:=by unfold Je Jc;exact if_pos ⟨h0,h1⟩
theorem ay9 {n:Nat}{ls:List (List Int)}(hs:rQ ls<2^28)(hl:ls.length<2^28)(hn:ls.length<n):QR n ls=some ls.flatten:=by
 rw[aye];have h3:∀(k i m:Nat)(c:Nat),i+k=ls.length->k<m->c+rQ (ls.drop i)=rQ ls->OT n ls m ((c:Int),(i:Int))=some ((rQ ls:Nat):Int):=by
  intro k;induction k with
  |zero=>intro i m c hi hm hc;obtain⟨m,rfl⟩:∃m',m=m'+1:=⟨m-1,RS⟩;rw[ala,mD RS];rw[nZ RS] at hc;rw[<-hc];rfl
  |succ k ih=>
   intro i m c hi hm hc;obtain⟨m,rfl⟩:∃m',m=m'+1:=⟨m-1,RS⟩;have hlt:i<ls.length:=RS
   have hx:ls[i]? =some ls[i]:=gG hlt;have hsz:=UE hx;rw[ala,jm hx,fF hx,fU RS,cond_true,Option.bind_some,Tg RS,decide_eq_false RS];exact ih (i+1) m (c+ls[i].length) RS RS RS
 have h11:∀(k i m:Nat)(a:List Int),i+k=ls.length->k<m->a.length+rQ (ls.drop i)=rQ ls->OU n ls m (a,(i:Int))=some (a++(ls.drop i).flatten):=by
  intro k;induction k with
  |zero=>intro i m a hi hm hc;obtain⟨m,rfl⟩:∃m',m=m'+1:=⟨m-1,RS⟩;rw[alb,mD RS,nZ RS,List.flatten_nil,iV];rfl
  |succ k ih=>
   intro i m a hi hm hc;obtain⟨m,rfl⟩:∃m',m=m'+1:=⟨m-1,RS⟩;have hlt:i<ls.length:=RS
   have hx:ls[i]? =some ls[i]:=gG hlt;have hsz:=UE hx;rw[alb,jm hx,fF hx,fU RS,cond_true,Option.bind_some,FE RS aL,cond_true];have h:=ih (i+1) m (a++ls[i]) RS RS rW;rw[eZ] at h;rw[nW hlt,List.flatten_cons];exact h
 exact bs (h3 ls.length 0 n 0 RS hn aB) (bs (ay7 RS RS) (bs (h11 ls.length 0 n [] RS hn aB) rfl))
theorem aza {n:Nat}{ls:List (List Int)}(hs:rQ ls<2^28)(hl:ls.length<2^28)(hn:ls.length<n):Oi n ls=some ls.flatten:=by
 rw[ayh];have h3:∀(k i m:Nat)(c:Nat),i+k=ls.length->k<m->c+rQ (ls.drop i)=rQ ls->OW n ls m ((c:Int),(i:Int))=some ((rQ ls:Nat):Int):=by
  intro k;induction k with
  |zero=>intro i m c hi hm hc;obtain⟨m,rfl⟩:∃m',m=m'+1:=⟨m-1,RS⟩;rw[ald,mD RS];rw[nZ RS] at hc;rw[<-hc];rfl
  |succ k ih=>
   intro i m c hi hm hc;obtain⟨m,rfl⟩:∃m',m=m'+1:=⟨m-1,RS⟩;have hlt:i<ls.length:=RS
   have hx:ls[i]? =some ls[i]:=gG hlt;have hsz:=UE hx;rw[ald,jm hx,fF hx,fU RS,cond_true,Option.bind_some,Tg RS,decide_eq_false RS];exact ih (i+1) m (c+ls[i].length) RS RS RS
 have h11:∀(k i m:Nat)(a:List Int),i+k=ls.length->k<m->a.length+rQ (ls.drop i)=rQ ls->OX n ls m (a,(i:Int))=some (a++(ls.drop i).flatten):=by
  intro k;induction k with
  |zero=>intro i m a hi hm hc;obtain⟨m,rfl⟩:∃m',m=m'+1:=⟨m-1,RS⟩;rw[ale,mD RS,nZ RS,List.flatten_nil,iV];rfl
  |succ k ih=>
   intro i m a hi hm hc;obtain⟨m,rfl⟩:∃m',m=m'+1:=⟨m-1,RS⟩;have hlt:i<ls.length:=RS
   have hx:ls[i]? =some ls[i]:=gG hlt;have hsz:=UE hx;rw[ale,jm hx,fF hx,fU RS,cond_true,Option.bind_some,FE RS aL,cond_true];have h:=ih (i+1) m (a++ls[i]) RS RS rW;rw[eZ] at h;rw[nW hlt,List.flatten_cons];exact h
 exact bs (h3 ls.length 0 n 0 RS hn aB) (bs (ay8 RS RS) (bs (h11 ls.length 0 n [] RS hn aB) rfl))
theorem azb {n:Nat}{l:List (List UInt8)}(hb:∀x∈l,x.length<2^29)(hlen:l.length<2^62)(hn:20<n):∀(k i m:Nat)(a:List Int),i+k=l.length->k<m->a.length+iY fu (l.drop i)<2^29->OV n l m (a,(i:Int))=some (a++(l.drop i).flatMap fu):=by
 intro k;induction k with
 |zero=>intro i m a hi hm hc;obtain⟨m,rfl⟩:∃m',m=m'+1:=⟨m-1,RS⟩;rw[alc,mD RS,nZ RS,List.flatMap_nil,iV];rfl
 |succ k ih=>
  intro i m a hi hm hc;obtain⟨m,rfl⟩:∃m',m=m'+1:=⟨m-1,RS⟩;have hlt:i<l.length:=RS
  have hx:l[i]? =some l[i]:=gG hlt;have hd:l.drop i=l[i]::l.drop (i+1):=nW hlt;rw[hd] at hc⊢;have hm':=hb l[i] (lX hlt);generalize l[i]=x at hx hc hm'⊢;rw[alc,jm hx,fF hx,fU RS,cond_true];have hsz:iY fu (x::l.drop (i+1))=(fu x).length+iY fu (l.drop (i+1)):=rfl;have h:=ih (i+1) m (a++fu x) RS RS rW;rw[eZ] at h;exact bs rfl (bs (ajm hm' hn) (gR (lU RS aL) h))
theorem azc {n:Nat}{l:List (List UInt8)}(hb:∀x∈l,x.length<2^29)(hlen:l.length<2^62)(hn:20<n):∀(k i m:Nat)(a:List Int),i+k=l.length->k<m->a.length+iY fu (l.drop i)<2^29->Ph n l m (a,(i:Int))=some (a++(l.drop i).flatMap fu):=by
 intro k;induction k with
 |zero=>intro i m a hi hm hc;obtain⟨m,rfl⟩:∃m',m=m'+1:=⟨m-1,RS⟩;rw[alj,mD RS,nZ RS,List.flatMap_nil,iV];rfl
 |succ k ih=>
  intro i m a hi hm hc;obtain⟨m,rfl⟩:∃m',m=m'+1:=⟨m-1,RS⟩;have hlt:i<l.length:=RS
  have hx:l[i]? =some l[i]:=gG hlt;have hd:l.drop i=l[i]::l.drop (i+1):=nW hlt;rw[hd] at hc⊢;have hm':=hb l[i] (lX hlt);generalize l[i]=x at hx hc hm'⊢;rw[alj,jm hx,fF hx,fU RS,cond_true];have hsz:iY fu (x::l.drop (i+1))=(fu x).length+iY fu (l.drop (i+1)):=rfl;have h:=ih (i+1) m (a++fu x) RS RS rW;rw[eZ] at h;exact bs rfl (bs (ajn hm' hn) (gR (lU RS aL) h))
theorem azd {n:Nat}{l:List (List UInt8)}(hb:∀x∈l,x.length<2^29)(hs:iY fu l<2^28)(hl:l.length<2^20)(hn:l.length<n)(hn2:20<n):Og n l=some (Dl l):=by have h1:=xk (l.length:Int);rw[ayg];refine bs (?_:_=some (Dl l)) rfl;rw[ayf];exact bs (Tw (Bc RS) hn2) (bs (azb hb RS hn2 l.length 0 n _ RS hn (by rw[qC];omega)) rfl)
theorem aze {n:Nat}{l:List (List UInt8)}(hb:∀x∈l,x.length<2^29)(hs:iY fu l<2^28)(hl:l.length<2^20)(hn:l.length<n)(hn2:20<n):OG n l=some (Dl l):=by have h1:=xk (l.length:Int);rw[ayS];exact bs (Tx (Bc RS) hn2) (bs (azc hb RS hn2 l.length 0 n _ RS hn (by rw[qC];omega)) rfl)
def o7 (v:List Int)(a:List Attr):Prop:=v.length<=40/\a.length<=20/\∀x∈a,x.Name.length<=300/\x.S.length<=300
def xA (e:Entry):Prop:=(rI e.ID/\rI e.eu/\rI e.gK/\rI e.jF/\rI e.From/\rI e.To/\rI e.fQ)/\(∀x∈e.Vec,rI x)/\∀a∈e.aY,rI a.Kind/\rI a.N
def Ko (a:Attr):List Int:=[a.Kind,a.N]
def Po (a:Attr):List (List UInt8):=[a.Name,a.S]
def uL (e:Entry):List Int:=([e.ID,e.eu,e.gK,e.jF,e.From,e.To,e.fQ,((e.Vec.length:Nat):Int)]++e.Vec++[((e.aY.length:Nat):Int)])++e.aY.flatMap Ko
def Bq (e:Entry):List (List UInt8):=e.aY.flatMap Po
def uM (e:Entry):List Int:=vQ (uL e)++Dl (Bq e)
theorem ade {J β:Type}{f:J->List β}(h:∀a,(f a).length=2):∀l:List J,(l.flatMap f).length=2*l.length
 | []=>rfl|a::l=>by rw[lY,iP,h,ade h l,List.length_cons];omega
theorem adf (e:Entry):(uL e).length=9+e.Vec.length+2*e.aY.length:=by unfold uL;rw[iP,ade (fun _=>rfl)];simp only[iP,List.length_cons,List.length_nil];omega
theorem adg (e:Entry):(Bq e).length=2*e.aY.length:=ade (fun _=>rfl) _
theorem alv {e:Entry}(h:xA e)(ht:o7 e.Vec e.aY):∀x∈uL e,rI x:=by
 obtain⟨⟨h1,h2,h3,h4,h5,h6,h7⟩,h8,h9⟩:=h;obtain⟨t1,t2,_⟩:=ht;intro x hx;unfold uL at hx;rcases qB.1 hx with hx|hx
 .rcases qB.1 hx with hx|hx
  .rcases qB.1 hx with hx|hx
   .simp only[iC,List.not_mem_nil,or_false] at hx;rcases hx with rfl|rfl|rfl|rfl|rfl|rfl|rfl|rfl;all_goals first|assumption|exact Bc RS
   .exact h8 x hx
  .rw[iZ.1 hx];exact Bc RS
 .obtain⟨a,ha,hx⟩:=List.mem_flatMap.1 hx;unfold Ko at hx;simp only[iC,List.not_mem_nil,or_false] at hx;rcases hx with rfl|rfl
  .exact(h9 a ha).1
  .exact(h9 a ha).2
theorem Kq {e:Entry}(ht:o7 e.Vec e.aY):∀x∈Bq e,x.length<=300:=by
 intro x hx;obtain⟨a,ha,hx⟩:=List.mem_flatMap.1 hx;unfold Po at hx;simp only[iC,List.not_mem_nil,or_false] at hx;rcases hx with rfl|rfl
 .exact(ht.2.2 a ha).1
 .exact(ht.2.2 a ha).2
theorem alx {e:Entry}(ht:o7 e.Vec e.aY):iY fu (Bq e)<=310*(Bq e).length:=JE (b:=310) fun x hx=>by have:=Nw x;have:=Kq ht x hx;omega
theorem azf {e:Entry}(ht:o7 e.Vec e.aY):(uM e).length<=2^15:=by unfold uM;have h1:=Tz (l:=uL e);have h2:=ZP (b:=300) (Kq ht);have h3:=adf e;have h4:=adg e;obtain⟨t1,t2,_⟩:=ht;rw[iP];omega
theorem azg {n:Nat}{e:Entry}(hlen:e.aY.length<=20):∀(k i m:Nat)(a:List Int)(b:List (List UInt8)),i+k=e.aY.length->k<m->a.length<2^20->b.length<2^20->Kh n e m (a,(b,(i:Int)))=some (a++(e.aY.drop i).flatMap Ko,b++(e.aY.drop i).flatMap Po):=by
 have key:∀(k i m:Nat)(a:List Int)(b:List (List UInt8)),i+k=e.aY.length->k<m->a.length+2*k<2^21->b.length+2*k<2^21->Kh n e m (a,(b,(i:Int)))=some (a++(e.aY.drop i).flatMap Ko,b++(e.aY.drop i).flatMap Po):=by
  intro k;induction k with
  |zero=>intro i m a b hi hm ha hb;obtain⟨m,rfl⟩:∃m',m=m'+1:=⟨m-1,RS⟩;rw[alf,mD RS,nZ RS,List.flatMap_nil,List.flatMap_nil,iV,iV];rfl
  |succ k ih=>
   intro i m a b hi hm ha hb;obtain⟨m,rfl⟩:∃m',m=m'+1:=⟨m-1,RS⟩;have hlt:i<e.aY.length:=RS
   have hx:e.aY[i]? =some e.aY[i]:=gG hlt;have hd:e.aY.drop i=e.aY[i]::e.aY.drop (i+1):=nW hlt;rw[hd];generalize e.aY[i]=x at hx⊢;rw[alf,jm hx,fF hx,fU RS,cond_true];have h:=ih (i+1) m (a++[x.Kind,x.N]) (b++[x.Name,x.S]) RS RS Qa Qa;rw[eZ,eZ] at h;exact bs rfl (gR (lU dP aL) (gR (lU dP aL) h))
 intro k i m a b hi hm ha hb;exact key k i m a b hi hm RS RS
theorem azh {n:Nat}{e:Entry}(hlen:e.aY.length<=20):∀(k i m:Nat)(a:List Int)(b:List (List UInt8)),i+k=e.aY.length->k<m->a.length+2*k<2^21->b.length+2*k<2^21->Pj n e m (a,(b,(i:Int)))=some (a++(e.aY.drop i).flatMap Ko,b++(e.aY.drop i).flatMap Po):=by
 intro k;induction k with
 |zero=>intro i m a b hi hm ha hb;obtain⟨m,rfl⟩:∃m',m=m'+1:=⟨m-1,RS⟩;rw[alk,mD RS,nZ RS,List.flatMap_nil,List.flatMap_nil,iV,iV];rfl
 |succ k ih=>
  intro i m a b hi hm ha hb;obtain⟨m,rfl⟩:∃m',m=m'+1:=⟨m-1,RS⟩;have hlt:i<e.aY.length:=RS
  have hx:e.aY[i]? =some e.aY[i]:=gG hlt;have hd:e.aY.drop i=e.aY[i]::e.aY.drop (i+1):=nW hlt;rw[hd];generalize e.aY[i]=x at hx⊢;rw[alk,jm hx,fF hx,fU RS,cond_true];have h:=ih (i+1) m (a++[x.Kind,x.N]) (b++[x.Name,x.S]) RS RS Qa Qa;rw[eZ,eZ] at h;exact bs rfl (bs rfl (gR (lU dP aL) (bs rfl (bs rfl (gR (lU dP aL) h)))))
theorem azi {n:Nat}{e:Entry}(h:xA e)(ht:o7 e.Vec e.aY)(hn:2^20<n):Oj n e=some (uM e):=by
 have h3:=adf e;have h4:=adg e;have h5:=alx ht;have ht':=ht;obtain⟨t1,t2,_⟩:=ht';have h6:=Tz (l:=uL e);have h7:=ZP (b:=300) (Kq ht);rw[ayi];refine bs (ay9 (ls:=[[e.ID,e.eu,e.gK,e.jF,e.From,e.To,e.fQ,((e.Vec.length:Nat):Int)],e.Vec,[((e.aY.length:Nat):Int)]]) (by simp[rQ];omega) aB dP) ?_;refine bs (azg (n:=n) (e:=e) t2 e.aY.length 0 n _ [] RS RS dP aB) ?_;rw[qC,List.nil_append];have e1:([[e.ID,e.eu,e.gK,e.jF,e.From,e.To,e.fQ,((e.Vec.length:Nat):Int)],e.Vec,[((e.aY.length:Nat):Int)]]:List (List Int)).flatten++e.aY.flatMap Ko=uL e:=by unfold uL;simp
 rw[e1];refine bs (ajp (l:=uL e) (alv h ht) RS RS RS) ?_;refine bs (azd (l:=Bq e) (fun x hx=>by have:=Kq ht x hx;omega) RS RS RS RS) ?_;have hc:=aza (n:=n) (ls:=[vQ (uL e),Dl (Bq e)]) (by simp[rQ];omega) aB dP;rw[show ([vQ (uL e),Dl (Bq e)]:List (List Int)).flatten=uM e by unfold uM;simp] at hc;exact bs hc rfl
theorem azj {n:Nat}{e:Entry}(h:xA e)(ht:o7 e.Vec e.aY)(hn:2^20<n):OH n e=some (uM e):=by have h3:=adf e;have h4:=adg e;have h5:=alx ht;have ht':=ht;obtain⟨t1,t2,_⟩:=ht';have h6:=Tz (l:=uL e);have h7:=ZP (b:=300) (Kq ht);rw[ayT];refine gR (lU dP aL) (gR (lU dP aL) ?_);refine bs (azh (n:=n) (e:=e) t2 e.aY.length 0 n _ [] RS RS dP dP) ?_;rw[qC,List.nil_append];refine bs (au6 (l:=uL e) (alv h ht) RS RS RS) ?_;refine gR (lU RS aL) ?_;refine bs (aze (l:=Bq e) (fun x hx=>by have:=Kq ht x hx;omega) RS RS RS RS) ?_;refine gR (lU (by rw[List.nil_append];omega) aL) ?_;unfold uM;rw[List.nil_append];rfl
end Sh
end
section
open Go Go.Proofs aR
namespace Sh
set_option maxRecDepth 100000
attribute [local irreducible] pR
def Pp (e:Entry):aC:=pR 14 [mQ (uM e)]
theorem aly {e:Entry}(ht:o7 e.Vec e.aY):(∀x∈[mQ (uM e)],x.length<2^28)/\iY fu [mQ (uM e)]<=2^16:=by
 have h1:=azf ht;refine⟨fun x hx=>?_,?_⟩
 .rw[iZ.1 hx,zQ];omega
 .have:=Nw (mQ (uM e));rw[zQ] at this;show (fu (mQ (uM e))).length+0<=_;omega
theorem azk {n:Nat}{e:Entry}(h:xA e)(ht:o7 e.Vec e.aY)(hn:2^20<n):Ol n e=some (Pp e):=by obtain⟨h1,h2⟩:=aly ht;rw[ayj];exact bs (azi h ht hn) (bs (JF (ls:=[mQ (uM e)]) h1 RS RS dP RS aB) rfl)
theorem azl {n:Nat}{e:Entry}(h:xA e)(ht:o7 e.Vec e.aY)(hn:2^20<n):OI n e=some (Pp e):=by obtain⟨h1,h2⟩:=aly ht;rw[ayU];exact bs (azj h ht hn) (bs (avb (ls:=[mQ (uM e)]) h1 RS RS dP RS aB) rfl)
def DX (r:Row):Gone:=⟨r.Entry.ID,r.Entry.eu,r.Entry.fQ,r.eB,Pp r.Entry⟩
theorem alz {n:Nat}{r:Row}(h:xA r.Entry)(ht:o7 r.Entry.Vec r.Entry.aY)(hn:2^20<n):J2 n r=some (DX r):=by rw[ayk];exact bs (azk h ht hn) rfl
def Kr (g:Gone):Prop:=rI g.ID/\rI g.eu/\rI g.fQ/\rI g.eB
def Kt (d:aC):List Int:=[d.b0,d.b1,d.b2,d.b3,d.b4,d.b5,d.b6,d.b7,d.b8,d.b9,d.b10,d.b11,d.b12,d.b13,d.b14,d.b15]
def zY (g:Gone):aC:=pR 211 [mQ (vQ [g.ID,g.eu,g.fQ,g.eB]),mQ (Kt g.Leaf)]
theorem azm (g:Gone):(∀x∈[mQ (vQ [g.ID,g.eu,g.fQ,g.eB]),mQ (Kt g.Leaf)],x.length<2^28)/\iY fu [mQ (vQ [g.ID,g.eu,g.fQ,g.eB]),mQ (Kt g.Leaf)]<=2^16:=by
 have h1:=Tz (l:=[g.ID,g.eu,g.fQ,g.eB]);have h2:(Kt g.Leaf).length=16:=rfl;simp only[List.length_cons,List.length_nil] at h1;refine⟨fun x hx=>?_,?_⟩
 .simp only[iC,List.not_mem_nil,or_false] at hx;rcases hx with rfl|rfl<;>rw[zQ]<;>omega
 .have h3:=Nw (mQ (vQ [g.ID,g.eu,g.fQ,g.eB]));have h4:=Nw (mQ (Kt g.Leaf));rw[zQ] at h3 h4;show (fu _).length+((fu _).length+0)<=_;omega
theorem azn {g:Gone}(h:Kr g):∀x∈[g.ID,g.eu,g.fQ,g.eB],rI x:=by obtain⟨h1,h2,h3,h4⟩:=h;intro x hx;simp only[iC,List.not_mem_nil,or_false] at hx;rcases hx with rfl|rfl|rfl|rfl<;>assumption
theorem azo {n:Nat}{ls:List (List UInt8)}(hb:∀x∈ls,x.length<2^28)(hs:1+iY fu ls<2^28)(hsn:iY fu ls<n)(hl:ls.length<n)(hn:200<n)(hlen:ls.length<2^62):Oo n ls=some (pR 211 ls):=by rw[aym];exact bs (JF hb hs hsn hl hn hlen) rfl
theorem alA {n:Nat}{g:Gone}(h:Kr g)(hn:2^20<n):J3 n g=some (zY g):=by obtain⟨h1,h2⟩:=azm g;rw[ayn];refine bs (ajp (l:=[g.ID,g.eu,g.fQ,g.eB]) (azn h) aB dP RS) ?_;exact bs (azo (ls:=[mQ (vQ [g.ID,g.eu,g.fQ,g.eB]),mQ (Kt g.Leaf)]) h1 RS RS dP RS aB) rfl
end Sh
end
section
open Go Go.Proofs aR
namespace Sh
set_option maxRecDepth 100000
attribute [local irreducible] pR
abbrev ieq:=mK R (Ty.int IntKind.i64)
def vW:List (Int×Int)->List Row->List (Int×Int)
 |m,[]=>m|m,r::l=>vW (zm ieq r.Entry.ID (imax (Ia 0 (yh ieq r.Entry.ID m)) r.Entry.eu) m) l
def sV (m:List (Int×Int))(id:Int):Int:=Ia 0 (yh ieq id m)
def nC (last:Int->Int)(f:Int)(r:Row):Bool:=decide (r.eB>=1)&& decide (r.eB<=f)&& decide (r.Entry.eu<last r.Entry.ID)
theorem alB {n:Nat}{l:List Row}(hn:l.length<n)(hb:l.length<2^62):Od n l=some (vW [] l):=by
 rw[ayb];have h3:∀(k i m:Nat)(o:List (Int×Int)),i+k=l.length->k<m->OQ n l m ((i:Int),o)=some ((),vW o (l.drop i)):=by
  intro k;induction k with
  |zero=>intro i m o hi hm;obtain⟨m,rfl⟩:∃m',m=m'+1:=⟨m-1,RS⟩;rw[ak7,mD RS,nZ RS];rfl
  |succ k ih=>
   intro i m o hi hm;obtain⟨m,rfl⟩:∃m',m=m'+1:=⟨m-1,RS⟩;have hlt:i<l.length:=RS
   have hx:l[i]? =some l[i]:=gG hlt;rw[ak7,jm hx,fF hx,fU RS,cond_true,Option.bind_some,ih (i+1) m _ RS RS,nW hlt];rfl
 have:=h3 l.length 0 n [] RS hn;exact bs this rfl
theorem alC {n:Nat}{r:Row}{f:Int}{m:List (Int×Int)}:JY n (r,(f,m))=some (nC (sV m) f r):=by rw[ayc];unfold nC sV;cases decide (r.eB>=1)<;>cases decide (r.eB<=f)<;>rfl
theorem azp {n:Nat}{l:List Row}{f:Int}{mp:List (Int×Int)}(hn:l.length<n)(hb:l.length<=65536):
 Zs n (l,((),(f,mp)))=some (l.filter (nC (sV mp) f),l.filter fun r=>!nC (sV mp) f r):=by
 rw[ayd];have h3:∀(k i m:Nat)(a b:List Row),i+k=l.length->k<m->a.length<=i->b.length<=i->Kg n l f mp m (a,(b,(i:Int)))=some (a++(l.drop i).filter (nC (sV mp) f),b++(l.drop i).filter fun r=>!nC (sV mp) f r):=by
  intro k;induction k with
  |zero=>intro i m a b hi hm ha hb';obtain⟨m,rfl⟩:∃m',m=m'+1:=⟨m-1,RS⟩;rw[ak9,mD RS,nZ RS];simp
  |succ k ih=>
   intro i m a b hi hm ha hb';obtain⟨m,rfl⟩:∃m',m=m'+1:=⟨m-1,RS⟩;have hlt:i<l.length:=RS
   have hx:l[i]? =some l[i]:=gG hlt;rw[ak9,jm hx,fF hx,fU RS,cond_true,Option.bind_some,nW hlt];refine bs alC ?_;rw[List.filter_cons,List.filter_cons];cases hg:nC (sV mp) f l[i] with
   |true=>rw[cond_true,FE PE aL,cond_true,ih (i+1) m _ _ RS RS (by rw[iP,List.length_cons,List.length_nil];omega) RS];simp|false=>rw[cond_false,FE PE aL,cond_true,ih (i+1) m _ _ RS RS RS (by rw[iP,List.length_cons,List.length_nil];omega)];simp
 have:=h3 l.length 0 n [] [] RS hn aB aB;exact bs this rfl
theorem azq {n:Nat}{b:Book}{f:Int}(hn:2^20<n)(hb:b.Rows.length<=65536)(ht:∀r∈b.Rows,xA r.Entry/\o7 r.Entry.Vec r.Entry.aY)(h0:0<=f)(h1:f<=b.aN):
 Om n (b,f)=some ((⟨b.aG,b.aN,b.Day,b.bn,b.Rows.filter fun r=>!nC (sV (vW [] b.Rows)) f r⟩:Book),((b.Rows.filter (nC (sV (vW [] b.Rows)) f)).map DX,(0:Int))):=by
 rw[ayl,decide_eq_false RS,cond_false,decide_eq_false RS,cond_false];have hf:FM n (b,f)=some ((),(f,vW [] b.Rows)):=by rw[ak8];exact bs (alB RS RS) rfl
 refine bs hf (bs (azp RS hb) ?_);have h6:∀(r4:List Row×List Row),r4.1.length<=65536->(∀r∈r4.1,xA r.Entry/\o7 r.Entry.Vec r.Entry.aY)->∀(k i m:Nat)(a:List Gone),i+k=r4.1.length->k<m->a.length<=i->OY n b r4 m (a,(i:Int))=some (a++(r4.1.drop i).map DX):=by
  intro r4 hl hr k;induction k with
  |zero=>intro i m a hi hm ha;obtain⟨m,rfl⟩:∃m',m=m'+1:=⟨m-1,RS⟩;rw[alg,mD RS,nZ RS];simp
  |succ k ih=>
   intro i m a hi hm ha;obtain⟨m,rfl⟩:∃m',m=m'+1:=⟨m-1,RS⟩;have hlt:i<r4.1.length:=RS
   have hx:r4.1[i]? =some r4.1[i]:=gG hlt;rw[alg,jm hx,fF hx,fU RS,cond_true,Option.bind_some,nW hlt];refine bs (alz (hr _ (lX hlt)).1 (hr _ (lX hlt)).2 hn) ?_;rw[FE PE aL,cond_true,ih (i+1) m _ RS RS (by rw[iP,List.length_cons,List.length_nil];omega),iA,eZ];rfl
 have hlen:(b.Rows.filter (nC (sV (vW [] b.Rows)) f)).length<=65536:=eO (List.length_filter_le _ _) hb;have:=h6 (b.Rows.filter (nC (sV (vW [] b.Rows)) f),b.Rows.filter fun r=>!nC (sV (vW [] b.Rows)) f r) hlen (fun r hr=>ht r (uT.1 hr).1) (b.Rows.filter (nC (sV (vW [] b.Rows)) f)).length 0 n [] (by show 0+_=(b.Rows.filter (nC (sV (vW [] b.Rows)) f)).length;omega) RS aB;exact bs this rfl
abbrev DY (b:Book):Int->Int:=sV (vW [] b.Rows)
theorem azr {n:Nat}{b:Book}{f:Int}{i:Nat}{r:Row}(hx:b.Rows[i]? =some r)(hn:b.Rows.length<n)(hb:b.Rows.length<2^62):Ou n (b,(f,(i:Int)))=some (nC (DY b) f r):=by
 have hlt:=ou hx;rw[ays];refine kG (decide_eq_true RS) (kG (decide_eq_true RS) ?_);have hf:FM n (b,f)=some ((),(f,vW [] b.Rows)):=by rw[ak8];exact bs (alB hn hb) rfl
 exact bs hf (bs (fF hx) (bs alC rfl))
end Sh
end
section
open Go Go.Proofs aR
namespace Sh
def findD (s:aG)(x:List UInt8):Int:=match s.Defs.findIdx? (fun d=>d.Name==x) with
 |some i=>(i:Int)|none=>-1
theorem azs {n:Nat}{s:aG}{x:List UInt8}(h:s.Defs.length<n)(hb:s.Defs.length<2^62):NW n (s,x)=some (findD s x):=by
 have:=ZG (L:=fun m i=>OO n s x m i) (l:=s.Defs) (fun d i r=>bif d.Name==x then some (.inr (i:Int)) else r) (some (.inl ()))
  (fun m i d hd=>by have hlt:=ou hd;rw[akW,jm hd,fF hd,fU RS];rfl)
  (fun m=>by rw[akW,FC];rfl) h
 rw[axV,this,Te (fun d:Def=>d.Name==x) (fun i=>(Sum.inr (i:Int):PUnit⊕Int)) (.inl ())];unfold findD;cases s.Defs.findIdx? (fun d=>d.Name==x) with
 |none=>rfl|some j=>simp;rfl
theorem alD {n:Nat}{l:List (List UInt8)}{x:List UInt8}(h:l.length<n)(hb:l.length<2^62):FL n (l,x)=some (l.any (· ==x)):=by
 have:=ZG (L:=fun m i=>OL n l x m i) (l:=l) (fun d i r=>bif d==x then some (.inr true) else r) (some (.inl ()))
  (fun m i d hd=>by have hlt:=ou hd;rw[akO,jm hd,fF hd,fU RS];rfl)
  (fun m=>by rw[akO,FC];rfl) h
 rw[axN,this,Te (fun d:List UInt8=>d==x) (fun i=>(Sum.inr true:PUnit⊕Bool)) (.inl ())];cases hf:l.findIdx? (fun d=>d==x) with
 |none=>
  rw[List.findIdx?_eq_none_iff] at hf;have:l.any (· ==x)=false:=by rw[List.any_eq_false];intro y hy;simpa using hf y hy
  rw[this];rfl
 |some j=>
  obtain⟨hj,h2,_⟩:=List.findIdx?_eq_some_iff_getElem.1 hf;have:l.any (· ==x)=true:=by rw[List.any_eq_true];exact⟨l[j],lX hj,h2⟩
  rw[this];rfl
theorem Ku {J:Type}{c:Bool}{o:Option J}{d:J}(h:c=true->∃x,o=some x):∃x,pO c o d=some x:=by
 cases c
 .exact⟨d,rfl⟩
 .exact h rfl
theorem azt {n:Nat}{e:Entry}(h:e.aY.length<n)(hb:e.aY.length<2^62):∃b,JN n e=some b:=by
 obtain⟨r,hr,_⟩:=ai6 (L:=fun m i=>DI n e m i) (fun i=>0<=i/\i<=e.aY.length) (fun i=>(e.aY.length-i).toNat) (fun _=>True)
  (fun m i hi ih=>by rw[ac3];refine kF (fun hc=>?_) (fun _=>kM trivial);have hc':decide (i< ((e.aY.length:Nat):Int))=true:=(by revert hc;cases decide (i< ((e.aY.length:Nat):Int))<;>simp);obtain⟨x,hx⟩:=auo hi.1 hc';refine fK ⟨x,hx,?_⟩;rw[hx];obtain⟨y,hy⟩:=Ku (c:= !(decide ((((x.Name.length:Nat):Int))> (300:Int)))) (o:=some x) (d:=(⟨[],(0:Int),(0:Int),[]⟩:Attr)) (fun _=>⟨x,rfl⟩);refine fK ⟨y,hy,?_⟩;refine kF (fun _=>kM trivial) (fun _=>?_);have h3:=of_decide_eq_true hc';rw[IntKind.wrap_i64];have e2:(i+1+9223372036854775808)% 18446744073709551616-9223372036854775808=i+1:=RS;rw[e2];exact ih _ ⟨RS,RS⟩ RS) n (0:Int) ⟨RS,RS⟩ yP
 rw[akI,hr];cases r with
 |inl q=>exact⟨_,rfl⟩|inr q=>exact⟨_,rfl⟩
def rR (s:aG)(n:Nat):Prop:=s.Defs.length<n/\s.Defs.length<2^62/\∀d∈s.Defs,d.Name.length<n/\d.Name.length<2^62/\d.Words.length<n/\d.Words.length<2^62/\∀w∈d.Words,w.length<n/\w.length<2^62
theorem alE {n:Nat}{x:List UInt8}(h:x.length<n)(hb:x.length<2^62)(hn:6<n):∃b:Bool,JR n x=some b:=by
 obtain⟨r,hr⟩:=Ba (L:=fun m (_:Unit) i=>DN n x m i) (l:=x)
  (fun m i c _ hc ih=>by
    have hlt:=ou hc;show∃r,DN n x (m+1) (i:Int)=some r;rw[akP,jm hc,fF hc,fU RS,cond_true,Option.bind_some];cases (bif !(bif decide ((c.toNat:Int)>=(97:Int)) then decide ((c.toNat:Int)<=(122:Int)) else false) then bif (i:Int)==(0:Int) then true else !(bif bif decide ((c.toNat:Int)>=(48:Int)) then decide ((c.toNat:Int)<=(57:Int)) else false then true else (c.toNat:Int)==(95:Int)) else false)
    .exact ih ()
    .exact⟨_,rfl⟩)
  (fun m _ i hi=>by show∃r,DN n x (m+1) (i:Int)=some r;rw[akP,mD hi];exact⟨_,rfl⟩) x.length 0 n () RS h
 have hr':DN n x n (0:Int)=some r:=hr;rw[axO,hr'];cases r with
 |inl q=>obtain⟨b,hb'⟩:=Ku (c:=bif decide ((x.length:Int)>=(1:Int)) then decide ((x.length:Int)<=(40:Int)) else false) (o:=FL n (([[(97:UInt8),(108:UInt8),(108:UInt8)],[(97:UInt8),(110:UInt8),(100:UInt8)],[(104:UInt8),(97:UInt8),(115:UInt8)],[(105:UInt8),(110:UInt8)],[(110:UInt8),(111:UInt8),(116:UInt8)],[(111:UInt8),(114:UInt8)]],x))) (d:=false) (fun _=>⟨_,alD (show 6<n from hn) (show 6<2^62 by omega)⟩);rw[Option.bind_some];show∃b,Option.bind (pO _ _ _) _=some b;rw[hb'];exact⟨_,rfl⟩
 |inr q=>exact⟨q,rfl⟩
theorem azu {n:Nat}{l:List (List UInt8)}(h:l.length<n)(hb:l.length<2^62)(hw:∀w∈l,w.length<n/\w.length<2^62)(hn:6<n):∃e:Int,NS n l=some e:=by
 rw[axP];cases (bif decide ((l.length:Int)< (1:Int)) then true else decide ((l.length:Int)> (50:Int)))
 .obtain⟨r,hr⟩:=Ba (L:=fun m (_:Unit) i=>DR n l m i) (l:=l)
   (fun m i c _ hc ih=>by
     have hlt:=ou hc;show∃r,DR n l (m+1) (i:Int)=some r;obtain⟨b,hb'⟩:=alE (hw c (uU hc)).1 (hw c (uU hc)).2 hn;rw[akQ,jm hc,fF hc,fU RS,cond_true,Option.bind_some,hb'];cases b
     .exact⟨_,rfl⟩
     .exact ih ())
   (fun m _ i hi=>by show∃r,DR n l (m+1) (i:Int)=some r;rw[akQ,mD hi];exact⟨_,rfl⟩) l.length 0 n () RS h
  have hr':DR n l n (0:Int)=some r:=hr;rw[cond_false,hr',Option.bind_some];cases r with
  |inr q=>exact⟨q,rfl⟩|inl q=>
   obtain⟨r,hr2⟩:=Ba (L:=fun m (_:Unit) i=>DT n l m (i+1)) (l:=l.tail)
    (fun m i c _ hc ih=>by
      have hc':l[i+1]? =some c:=(by rw[List.getElem?_tail] at hc;exact hc);have hlt:=ou hc';show∃r,DT n l (m+1) ((i:Int)+1)=some r;have ei:(i:Int)+1=((i+1:Nat):Int):=RS;have e0:IntKind.wrap .i64 (((i+1:Nat):Int)-(1:Int))=(i:Int):=Ac;have hi0:l[i]? =some l[i]:=gG RS;rw[ei,akR,jm hc',fF hc',fU RS,e0,fF hi0,cond_true,Option.bind_some,Option.bind_some];cases (Go.Op.bytesLess c l[i]||c==l[i])
      .have:=ih ();have e1:(((i+1:Nat):Int))+1=((i+1+1:Nat):Int):=RS;simp only[e1] at this;exact this
      .exact⟨_,rfl⟩)
    (fun m _ i hi=>by show∃r,DT n l (m+1) ((i:Int)+1)=some r;have ei:(i:Int)+1=((i+1:Nat):Int):=RS;rw[ei,akR,mD (by rw[List.length_tail] at hi;omega)];exact⟨_,rfl⟩) l.length 0 n () (by rw[List.length_tail];omega) h
   have hr2':DT n l n (1:Int)=some r:=hr2;rw[Sum.elim_inl,hr2',Option.bind_some];cases r with
   |inl q=>exact⟨0,rfl⟩|inr q=>exact⟨q,rfl⟩
 .exact⟨_,rfl⟩
theorem lu {J:Type}{c:Bool}{a b:Option J}(ha:∃r,a=some r)(hb:∃r,b=some r):∃r,(bif c then a else b)=some r:=by
 cases c
 .exact hb
 .exact ha
theorem azv {n:Nat}{d:Def}{x:List UInt8}(h:d.Name.length<n/\d.Name.length<2^62/\d.Words.length<n/\d.Words.length<2^62/\∀w∈d.Words,w.length<n/\w.length<2^62)(hn:6<n):∃e:Int,NT n (d,x)=some e:=by obtain⟨b,hb⟩:=alE h.1 h.2.1 hn;obtain⟨e,he⟩:=azu h.2.2.1 h.2.2.2.1 h.2.2.2.2 hn;rw[axR,hb];show∃e:Int,(bif !b then some (5:Int) else _)=some e;refine lu ⟨_,rfl⟩ (lu ⟨_,rfl⟩ (lu (lu ⟨_,rfl⟩ (lu ⟨_,rfl⟩ ⟨_,rfl⟩)) (lu (lu ⟨_,rfl⟩ ?_) ⟨_,rfl⟩)));rw[he];exact⟨e,rfl⟩
theorem alF {n:Nat}{s:aG}(h:rR s n)(hn:6<n):∃e:Int,JU n s=some e:=by
 obtain⟨h1,h2,h3⟩:=h;obtain⟨b,hb⟩:=Ku (c:= !(bif decide (s.jM< (1:Int)) then true else decide (s.jM> (32:Int)))) (o:=NQ n s.kS) (d:=false) (fun _=>by rw[axM];exact⟨_,rfl⟩);obtain⟨r,hr⟩:=Ba (L:=fun m (x:List UInt8) i=>DU n s m (x,i)) (l:=s.Defs)
  (fun m i d x hd ih=>by have hlt:=ou hd;show∃r,DU n s (m+1) (x,(i:Int))=some r;obtain⟨e,he⟩:=azv (x:=x) (h3 d (uU hd)) hn;rw[akS,jm hd,fF hd,fU RS,cond_true,Option.bind_some,he];show∃r,(bif e !=(0:Int) then _ else _)=some r;exact lu ⟨_,rfl⟩ (ih _))
  (fun m x i hi=>by show∃r,DU n s (m+1) (x,(i:Int))=some r;rw[akS,mD hi];exact⟨_,rfl⟩) s.Defs.length 0 n [] RS h1
 have hr':DU n s n ([],(0:Int))=some r:=hr;rw[axS];show∃e:Int,Option.bind (pO _ _ _) _=some e;rw[hb];show∃e:Int,(bif _ then some (1:Int) else _)=some e;refine lu ⟨_,rfl⟩ (lu ⟨_,rfl⟩ ?_);rw[hr',Option.bind_some];cases r with
 |inl q=>exact⟨0,rfl⟩|inr q=>exact⟨q,rfl⟩
theorem azw {n:Nat}{s:aG}{k:Int}(h:rR s n):∃b:Bool,JQ n (s,k)=some b:=by
 obtain⟨h1,h2,h3⟩:=h;obtain⟨r,hr⟩:=Ba (L:=fun m (_:Unit) i=>DK n s k m i) (l:=s.Defs)
  (fun m i d _ hd ih=>by
    have hlt:=ou hd;obtain⟨w1,w2,w3,w4,w5⟩:=h3 d (uU hd);show∃r,DK n s k (m+1) (i:Int)=some r;obtain⟨r,hr⟩:=Ba (L:=fun m (_:Unit) j=>DJ n s k (i:Int) d m j) (l:=d.Words)
     (fun m j w _ hw ih=>by have hlt:=ou hw;show∃r,DJ n s k (i:Int) d (m+1) (j:Int)=some r;rw[akL,jm hw,fF hw,fU RS,cond_true,Option.bind_some];exact lu ⟨_,rfl⟩ (ih ()))
     (fun m _ j hj=>by show∃r,DJ n s k (i:Int) d (m+1) (j:Int)=some r;rw[akL,mD hj];exact⟨_,rfl⟩) d.Words.length 0 n () RS w3
    have hr':DJ n s k (i:Int) d n (0:Int)=some r:=hr;rw[akM,jm hd,fF hd,fU RS,Option.bind_some,hr'];refine lu (lu ⟨_,rfl⟩ ?_) ⟨_,rfl⟩;cases r with
    |inl q=>exact ih ()|inr q=>exact⟨_,rfl⟩)
  (fun m _ i hi=>by show∃r,DK n s k (m+1) (i:Int)=some r;rw[akM,mD hi];exact⟨_,rfl⟩) s.Defs.length 0 n () RS h1
 have hr':DK n s k n (0:Int)=some r:=hr;rw[axL,hr',Option.bind_some];cases r with
 |inl q=>exact⟨_,rfl⟩|inr q=>exact⟨q,rfl⟩
def azx (l:List Event)(n:Nat):Prop:=l.length<n/\l.length<2^62/\∀x∈l,x.aY.length<n/\x.aY.length<2^62
theorem azy {n:Nat}{l:List Event}{k:Int}(h:azx l n):∃b:Bool,JO n (l,k)=some b:=by
 obtain⟨h1,h2,h3⟩:=h;obtain⟨r,hr⟩:=Ba (L:=fun m (_:Unit) i=>yG n l k m i) (l:=l)
  (fun m i x _ hx ih=>by have hlt:=ou hx;obtain⟨a1,a2⟩:=h3 x (uU hx);show∃r,yG n l k (m+1) (i:Int)=some r;rw[Ux,jm hx,fF hx,fU RS];refine lu ?_ ⟨_,rfl⟩;rw[Option.bind_some,Option.bind_some];obtain⟨b,hb⟩:=azt (n:=n) (e:=⟨0,0,0,0,0,0,0,x.Vec,x.aY⟩) a1 a2;rw[hb];show∃r,(bif !b then _ else _)=some r;exact lu ⟨_,rfl⟩ (ih ()))
  (fun m _ i hi=>by show∃r,yG n l k (m+1) (i:Int)=some r;rw[Ux,mD hi];exact⟨_,rfl⟩) l.length 0 n () RS h1
 have hr':yG n l k n (0:Int)=some r:=hr;rw[akK,hr',Option.bind_some];cases r with
 |inl q=>exact⟨_,rfl⟩|inr q=>exact⟨q,rfl⟩
theorem azz {n:Nat}{b:Book}{d:Int}(h:b.Rows.length<n)(hb:b.Rows.length<2^62):∃r:Bool,NU n (b,d)=some r:=by
 have:=ZG (L:=fun m i=>OM n b d m i) (l:=b.Rows) (fun x i r=>bif x.Entry.ID==d then some (.inr true) else r) (some (.inl ()))
  (fun m i x hx=>by have hlt:=ou hx;rw[akU,jm hx,fF hx,fU RS];rfl)
  (fun m=>by rw[akU,FC];rfl) h
 rw[axT,this,Te (fun x:Row=>x.Entry.ID==d) (fun i=>(Sum.inr true:PUnit⊕Bool)) (.inl ())];cases b.Rows.findIdx? (fun x:Row=>x.Entry.ID==d)<;>exact⟨_,rfl⟩
theorem azA {n:Nat}{l:List Int}(h:l.length<n)(hb:l.length<2^62):∃r:Bool,NV n l=some r:=by
 obtain⟨r,hr⟩:=Ba (L:=fun m (_:Unit) i=>DV n l m i) (l:=l)
  (fun m i x _ hx ih=>by have hlt:=ou hx;show∃r,DV n l (m+1) (i:Int)=some r;rw[akV,jm hx,fF hx,fU RS];obtain⟨z,hz⟩:=Ku (c:= !(decide (x< (-1000:Int)))) (o:=some x) (d:=(0:Int)) (fun _=>⟨_,rfl⟩);simp only[cond_true,Option.bind_some,hz];exact lu ⟨_,rfl⟩ (ih ()))
  (fun m _ i hi=>by show∃r,DV n l (m+1) (i:Int)=some r;rw[akV,mD hi];exact⟨_,rfl⟩) l.length 0 n () RS RS
 have hr':DV n l n (0:Int)=some r:=hr;rw[axU,hr',Option.bind_some];cases r<;>exact⟨_,rfl⟩
theorem azB {n:Nat}{d:Def}{a:Attr}(h:d.Words.length<n)(hb:d.Words.length<2^62):∃r:Int,Dr n (d,a)=some r:=by rw[axW,alD h hb];exact lu ⟨_,rfl⟩ (lu (lu ⟨_,rfl⟩ (lu ⟨_,rfl⟩ ⟨_,rfl⟩)) (lu ⟨_,rfl⟩ (lu ⟨_,rfl⟩ ⟨_,rfl⟩)))
theorem azC {s:aG}{x:List UInt8}(h:¬findD s x<0):∃(i:Nat) (d:Def),findD s x=(i:Int)/\s.Defs[i]? =some d:=by
 unfold findD at h⊢;cases hf:s.Defs.findIdx? (fun d=>d.Name==x) with
 |none=>rw[hf] at h;exact absurd aL h|some i=>obtain⟨hi,_⟩:=List.findIdx?_eq_some_iff_getElem.mp hf;exact⟨i,s.Defs[i],rfl,gG hi⟩
theorem azD {n:Nat}{s:aG}{l:List Attr}(hs:rR s n)(h:l.length<n)(hb:l.length<2^62):∃r:Int,NY n (s,l)=some r:=by
 obtain⟨s1,s2,s3⟩:=hs;obtain⟨r,hr⟩:=Ba (L:=fun m (_:Unit) i=>yH n s l m i) (l:=l)
  (fun m i x _ hx ih=>by
    have hlt:=ou hx;have ih':∃r,yH n s l m ((i+1:Nat):Int)=some r:=ih ();show∃r,yH n s l (m+1) (i:Int)=some r;rw[akX,jm hx,fF hx,fU RS];simp only[cond_true,Option.bind_some];rw[azs s1 s2];show∃r,(bif decide (findD s x.Name<0) then some (Sum.inr (5:Int)) else _)=some r;by_cases hf:findD s x.Name<0
    .rw[decide_eq_true hf];exact⟨_,rfl⟩
    obtain⟨j,d,hj,hd⟩:=azC hf;rw[decide_eq_false hf,hj,fF hd];have hv:∃v:Int,Dr n (d,x)=some v:=(by obtain⟨_,_,w1,w2,_⟩:=s3 d (uU hd);exact azB w1 w2);obtain⟨v,hv⟩:=hv;have tail:∃r,((Dr n (d,x)).bind fun (cZ:Int)=>bif cZ !=(0:Int) then some (Sum.inr cZ) else yH n s l m ((i+1:Nat):Int))=some r:=(by rw[hv];exact lu ⟨_,rfl⟩ ih');show∃r,(bif decide ((i:Int)>0) then _ else _)=some r;cases i with
    |zero=>exact tail|succ k=>have hk:k<l.length:=RS;have hy:l[k]? =some l[k]:=gG hk;have hw:IntKind.wrap .i64 (((k+1:Nat):Int)-(1:Int))=((k:Nat):Int):=(by rw[show (((k+1:Nat):Int)-(1:Int))=((k:Nat):Int) by omega];rw[IntKind.wrap_i64];omega);rw[decide_eq_true (show ((k+1:Nat):Int)>0 by omega),hw,fF hy];show∃r,(bif _ then some (Sum.inr (6:Int)) else _)=some r;exact lu ⟨_,rfl⟩ tail)
  (fun m _ i hi=>by show∃r,yH n s l (m+1) (i:Int)=some r;rw[akX,mD hi];exact⟨_,rfl⟩) l.length 0 n () RS RS
 have hr':yH n s l n (0:Int)=some r:=hr;rw[axX,hr',Option.bind_some];cases r<;>exact⟨_,rfl⟩
def F8 (e:Entry):Prop:=(rI e.ID/\rI e.gK/\rI e.jF/\rI e.From/\rI e.To/\rI e.fQ)/\(∀x∈e.Vec,rI x)/\∀a∈e.aY,rI a.Kind/\rI a.N
theorem F8.all {e:Entry}(h:F8 e)(hv:rI e.eu):xA e:=⟨⟨h.1.1,hv,h.1.2.1,h.1.2.2.1,h.1.2.2.2.1,h.1.2.2.2.2.1,h.1.2.2.2.2.2⟩,h.2.1,h.2.2⟩
def yI (e:Entry)(n:Nat):Prop:=e.Vec.length<n/\e.Vec.length<2^62/\e.aY.length<n/\e.aY.length<2^62/\o7 e.Vec e.aY/\F8 e
theorem alG {n:Nat}{s:aG}{e:Entry}(hs:rR s n)(h:yI e n):∃r:Int,JV n (s,e)=some r:=by obtain⟨h1,h2,h3,h4,_⟩:=h;obtain⟨b,hb⟩:=azA h1 h2;obtain⟨r,hr⟩:=azD hs h3 h4;rw[axY,hb,hr];exact lu ⟨_,rfl⟩ (lu ⟨_,rfl⟩ (lu ⟨_,rfl⟩ ⟨_,rfl⟩))
theorem alH {n:Nat}{e:Entry}(hb:e.aY.length<2^62):∀(m i:Nat),DI n e m (i:Int)=some (.inl ())->∀j (hj:j<e.aY.length),i<=j->j<=20->e.aY[j].Name.length<=300/\e.aY[j].S.length<=300
 |0,i,h,_,_,_,_=>by rw[akH] at h;cases h|m+1,i,h,j,hj,hij,h20=>by
  rw[ac3] at h;have hi:i<e.aY.length:=RS
  have e1:decide ((i:Int)< ((e.aY.length:Nat):Int))=true:=decide_eq_true RS;have e2:decide ((i:Int)<=(20:Int))=true:=decide_eq_true RS;have hx:e.aY[i]? =some e.aY[i]:=gG hi;rw[e1,e2,fF hx,fU RS] at h;simp only[cond_true,Option.bind_some] at h;cases hn:decide (((e.aY[i].Name.length:Nat):Int)> (300:Int)) with
  |true=>rw[hn] at h;simp only[Bool.not_true,pO,cond_false,cond_true,Option.bind_some] at h;cases h|false=>
   rw[hn] at h;simp only[Bool.not_false,pO,cond_true,cond_false,Option.bind_some] at h;cases hs:decide (((e.aY[i].S.length:Nat):Int)> (300:Int)) with
   |true=>rw[hs] at h;cases h|false=>
    rw[hs] at h;have h1:=of_decide_eq_false hn;have h2:=of_decide_eq_false hs;by_cases hji:j=i
    .subst hji;exact⟨RS,RS⟩
    .exact alH hb m (i+1) h j hj RS h20
theorem azE {n:Nat}{e:Entry}(hb:e.aY.length<2^62)(h:JN n e=some true):o7 e.Vec e.aY:=by
 rw[akI] at h;obtain⟨r,hr,h⟩:=iR.1 h;cases r with
 |inr b=>
  have:∀(m i:Nat) b,i<=2^62->DI n e m (i:Int)=some (.inr b)->b=false:=by
   intro m;induction m with
   |zero=>intro i b _ h;rw[akH] at h;cases h|succ m ih=>
    intro i b hi h;rw[ac3] at h;cases hc:(bif decide ((i:Int)< ((e.aY.length:Nat):Int)) then decide ((i:Int)<=(20:Int)) else false) with
    |false=>rw[hc] at h;cases h|true=>
     rw[hc] at h;have hlt:i<e.aY.length:=by
      cases hd:decide ((i:Int)< ((e.aY.length:Nat):Int)) with
      |false=>rw[hd] at hc;cases hc|true=>have:=of_decide_eq_true hd;omega
     rw[cond_true,fU RS] at h;obtain⟨x,_,h⟩:=iR.1 h;obtain⟨y,_,h⟩:=iR.1 h;revert h;cases (bif decide (((x.Name.length:Nat):Int)> (300:Int)) then true else decide (((y.S.length:Nat):Int)> (300:Int))) with
     |true=>intro h;cases h;rfl|false=>intro h;exact ih (i+1) b RS h
  have hb':=this n 0 b RS hr;subst hb';cases h
 |inl u=>
  have h':some (bif decide (((e.Vec.length:Nat):Int)<=(40:Int)) then decide (((e.aY.length:Nat):Int)<=(20:Int)) else false)=some true:=h;cases hv:decide (((e.Vec.length:Nat):Int)<=(40:Int)) with
  |false=>rw[hv] at h';cases h'|true=>rw[hv] at h';have h1:=of_decide_eq_true hv;have h2:=of_decide_eq_true (jW h');refine⟨RS,RS,fun x hx=>?_⟩;obtain⟨j,hj,rfl⟩:=Gj.1 hx;exact alH hb n 0 hr j hj (qA _) RS
theorem alI {n:Nat}{l:List Event}{k:Int}(hb:l.length<2^62)(ha:∀e∈l,e.aY.length<2^62):∀(m i:Nat),yG n l k m (i:Int)=some (.inl ())->∀j (hj:j<l.length),i<=j->(j:Int)<=k->o7 l[j].Vec l[j].aY
 |0,i,h,_,_,_,_=>by rw[akJ] at h;cases h|m+1,i,h,j,hj,hij,hk=>by
  rw[Ux] at h;have hi:i<l.length:=RS
  have e1:decide ((i:Int)< (l.length:Int))=true:=decide_eq_true RS;have e2:decide ((i:Int)<=k)=true:=decide_eq_true RS;have hx:l[i]? =some l[i]:=gG hi;rw[e1,e2,fF hx,fU RS] at h;simp only[cond_true,Option.bind_some] at h;obtain⟨b,hf,h⟩:=iR.1 h;cases b with
  |false=>cases h|true=>
   by_cases hji:j=i
   .subst hji;exact azE (e:=⟨0,0,0,0,0,0,0,l[j].Vec,l[j].aY⟩) (ha _ (lX _)) hf
   .exact alI hb ha m (i+1) h j hj RS hk
theorem azF {n:Nat}{l:List Event}{k:Int}(hb:l.length<2^62)(ha:∀e∈l,e.aY.length<2^62)(h:JO n (l,k)=some true):∀e∈l,o7 e.Vec e.aY:=by
 rw[akK] at h;obtain⟨r,hr,h⟩:=iR.1 h;cases r with
 |inr b=>
  have:∀(m i:Nat) b,i<=2^62->yG n l k m (i:Int)=some (.inr b)->b=false:=by
   intro m;induction m with
   |zero=>intro i b _ h;rw[akJ] at h;cases h|succ m ih=>
    intro i b hi h;rw[Ux] at h;cases hc:(bif decide ((i:Int)< (l.length:Int)) then decide ((i:Int)<=k) else false) with
    |false=>rw[hc] at h;cases h|true=>
     rw[hc] at h;have hlt:i<l.length:=by
      cases hd:decide ((i:Int)< (l.length:Int)) with
      |false=>rw[hd] at hc;cases hc|true=>have:=of_decide_eq_true hd;omega
     rw[cond_true,fU RS] at h;obtain⟨x,_,h⟩:=iR.1 h;obtain⟨y,_,h⟩:=iR.1 h;obtain⟨f,_,h⟩:=iR.1 h;revert h;cases f with
     |false=>intro h;cases h;rfl|true=>intro h;exact ih (i+1) b RS h
  have hb':=this n 0 b RS hr;subst hb';cases h
 |inl u=>have h':some (decide ((l.length:Int)<=k))=some true:=h;have h2:=of_decide_eq_true (jW h');intro x hx;obtain⟨j,hj,rfl⟩:=Gj.1 hx;exact alI hb ha n 0 hr j hj (qA _) RS
def yJ (id qV commit:Int)(r:Row):Row:=if r.Entry.ID=id/\r.Entry.From=qV/\r.eB=0/\r.Entry.fQ<commit then ⟨r.Entry,commit⟩ else r
theorem set_mid {J:Type}(a:List J)(x y:J)(b:List J):eX (a++x::b) (a.length:Int) y=a++y::b:=by unfold eX;rw[show ((a.length:Int)).toNat=a.length from rfl,List.set_append_right _ _ (mF _),Nat.sub_self];rfl
theorem azG {n:Nat}{rows:List Row}{id qV commit:Int}(h:rows.length<n)(hb:rows.length<2^30):JW n (rows,(id,(qV,commit)))=some (rows.map (yJ id qV commit)):=by
 have key:∀(b a:List Row)(m:Nat),a.length+b.length=rows.length->b.length<m->Kc n id qV commit m ((a.length:Int),a++b)=some ((),a++b.map (yJ id qV commit)):=by
  intro b;induction b with
  |nil=>intro a m hl hm;obtain⟨m,rfl⟩:∃m',m=m'+1:=⟨m-1,by simp at hm;omega⟩;rw[akZ,iV,FC];simp
  |cons x b ih=>
   intro a m hl hm;obtain⟨m,rfl⟩:∃m',m=m'+1:=⟨m-1,by simp at hm;omega⟩;simp only[List.length_cons] at hl hm;have hx:(a++x::b)[a.length]? =some x:=aB
   have hin:=Tf (ou hx);have ih':=fun y=>ih (a++[y]) m dP RS;have e0:∀y,(((a++[y]).length:Nat):Int)=((a.length+1:Nat):Int):=fun y=>aB
   rw[akZ,jm hx,cond_true,hin,cond_true];refine bs (fF hx) ?_;have imp:∀b:Bool,Mh b true=true:=fun b=>by cases b<;>rfl
   have hw:∀(c:Bool)(d:Row),pO c (aK (a++x::b) (a.length:Int)) d=some (bif c then x else d):=fun c d=>by rw[fF hx];exact ai4
   rw[imp,cond_true];refine bs (hw _ _) ?_;rw[imp,cond_true];refine bs (hw _ _) ?_;rw[imp,cond_true];refine bs (hw _ _) ?_;have hset:eX (a++x::b) (a.length:Int) (⟨x.Entry,commit⟩:Row)=a++[(⟨x.Entry,commit⟩:Row)]++b:=by rw[set_mid];simp
   by_cases c1:x.Entry.ID=id
   .have e1:(x.Entry.ID==id)=true:=(by simpa using c1);simp only[e1,cond_true];by_cases c2:x.Entry.From=qV
    .have e2:(x.Entry.From==qV)=true:=(by simpa using c2);simp only[e2,cond_true];by_cases c3:x.eB=0
     .have e3:(x.eB==(0:Int))=true:=(by simpa using c3);simp only[e3,cond_true];by_cases c4:x.Entry.fQ<commit
      .rw[decide_eq_true c4,cond_true];refine bs (fF hx) ?_;rw[fU RS,hset,<-e0,ih'];simp[yJ,c1,c2,c3,c4]
      .rw[decide_eq_false c4,cond_false,fU RS,show a++x::b=a++[x]++b by simp,<-e0 x,ih'];simp[yJ,c1,c2,c3,c4]
     .have e3:(x.eB==(0:Int))=false:=(by simpa using c3);simp only[e3,cond_false];rw[fU RS,show a++x::b=a++[x]++b by simp,<-e0 x,ih'];simp[yJ,c3]
    .have e2:(x.Entry.From==qV)=false:=(by simpa using c2);simp only[e2,cond_false];rw[fU RS,show a++x::b=a++[x]++b by simp,<-e0 x,ih'];simp[yJ,c2]
   .have e1:(x.Entry.ID==id)=false:=(by simpa using c1);simp only[e1,cond_false];rw[fU RS,show a++x::b=a++[x]++b by simp,<-e0 x,ih'];simp[yJ,c1]
 rw[ax0,Nv hb RS,cond_true];exact bs (key rows [] n aB h) rfl
theorem alJ {J:Type}{l:List J}{i:Int}{x y:J}(h:y∈eX l i x):y∈l\/y=x:=by unfold eX at h;exact List.mem_or_eq_of_mem_set h
theorem adh {J:Type}(l:List J)(i:Int)(x:J):(eX l i x).length=l.length:=by unfold eX;simp
theorem azH {n:Nat}{b:Book}{id i:Int}{x:Row}(hx:aK b.Rows i=some x):∀(k m:Nat)(out:List Row),k<out.length->k<m->k<2^62->(∀r∈out,r∈b.Rows/\r.Entry.ID=id)->
 ∃(k':Nat) (out':List Row),OP n b id i m ((k:Int),out)=some ((k':Int),out')/\k'<out'.length/\out'.length=out.length/\∀r∈out',r∈b.Rows/\r.Entry.ID=id:=by
 intro k;induction k with
 |zero=>intro m out hk hm hb ho;obtain⟨m,rfl⟩:∃m',m=m'+1:=⟨m-1,RS⟩;exact⟨0,out,by rw[ak2];rfl,hk,rfl,ho⟩
 |succ k ih=>
  intro m out hk hm hb ho;obtain⟨m,rfl⟩:∃m',m=m'+1:=⟨m-1,RS⟩;have hk1:k<out.length:=RS
  have hy:aK out ((k:Nat):Int)=some out[k]:=by rw[FB,gG hk1]
  have hz:aK out (((k+1:Nat)):Int)=some out[k+1]:=by rw[FB,gG hk]
  have hym:out[k]∈out:=lX hk1;generalize out[k]=y at hy hym;generalize out[k+1]=z at hz;have hw:IntKind.wrap .i64 (((k+1:Nat):Int)-(1:Int))=((k:Nat):Int):=by rw[ai5 RS hb];rfl
  rw[ak2,decide_eq_true RS,cond_true,hw,Tf hk1,cond_true];by_cases c:y.Entry.From>x.Entry.From
  .obtain⟨k',out',h1,h2,h3,h4⟩:=ih m (eX out ((k+1:Nat):Int) y) (by rw[adh];exact hk1) RS RS (fun r hr=>by
    rcases alJ hr with h|h
    .exact ho r h
    .rw[h];exact ho y hym)
   refine⟨k',out',?_,h2,by rw[h3,adh],h4⟩;refine bs hy (bs hx ?_);rw[decide_eq_true c,cond_true];refine bs hy ?_;rw[Tf hk,cond_true];exact bs hz h1
  .refine⟨k+1,out,?_,hk,rfl,ho⟩;refine bs hy (bs hx ?_);rw[decide_eq_false c,cond_false]
theorem azI {n:Nat}{b:Book}{id:Int}(h:b.Rows.length<n)(hb:b.Rows.length<2^29):∃l:List Row,Dt n (b,id)=some l/\l.length<=b.Rows.length/\∀r∈l,r∈b.Rows/\r.Entry.ID=id:=by
 have key:∀(k i m:Nat)(out:List Row),i+k=b.Rows.length->k<m->out.length<=i->(∀r∈out,r∈b.Rows/\r.Entry.ID=id)->∃q:PUnit×List Row,FR n b id m (((),(i:Int)),out)=some q/\q.2.length<=b.Rows.length/\∀r∈q.2,r∈b.Rows/\r.Entry.ID=id:=by
  intro k;induction k with
  |zero=>intro i m out hi hm ho hr;obtain⟨m,rfl⟩:∃m',m=m'+1:=⟨m-1,RS⟩;exact⟨((),out),by rw[ak3,decide_eq_false RS];rfl,by show out.length<=_;omega,hr⟩
  |succ k ih=>
   intro i m out hi hm ho hr;obtain⟨m,rfl⟩:∃m',m=m'+1:=⟨m-1,RS⟩;have hlt:i<b.Rows.length:=RS
   have hx:aK b.Rows (i:Int)=some b.Rows[i]:=by rw[FB,gG hlt]
   have hxm:b.Rows[i]∈b.Rows:=lX hlt;generalize b.Rows[i]=x at hx hxm;have hw:∀(c:Bool)(d:Row),pO c (aK b.Rows ((i:Nat):Int)) d=some (bif c then x else d):=fun c d=>by rw[hx];exact ai4
   have next:∀out':List Row,out'.length<=i+1->(∀r∈out',r∈b.Rows/\r.Entry.ID=id)->∃q:PUnit×List Row,FR n b id m (((),IntKind.wrap .i64 ((i:Int)+(1:Int))),out')=some q/\q.2.length<=b.Rows.length/\∀r∈q.2,r∈b.Rows/\r.Entry.ID=id:=fun out' h1 h2=>by rw[fU RS];exact ih (i+1) m out' RS RS h1 h2
   rw[ak3,decide_eq_true RS,cond_true];refine fK ⟨x,hx,?_⟩;refine fK ⟨_,hw _ _,?_⟩;refine kF (fun hid=>?_) (fun _=>next out RS hr);have hid:x.Entry.ID=id:=by
    cases h:(x.Entry.ID==id)
    .rw[h] at hid;cases hid
    .simpa using h
   refine fK ⟨x,hx,?_⟩;rw[Nv (show out.length+[x].length<2^30 by simp;omega) RS,cond_true];obtain⟨k',out',h1,h2,h3,h4⟩:=azH (n:=n) (b:=b) (id:=id) hx out.length n (out++[x]) aB RS RS (fun r hr'=>by
    rcases qB.1 hr' with h|h
    .exact hr r h
    .simp at h;rw[h];exact⟨hxm,hid⟩)
   refine fK ⟨_,h1,?_⟩;refine fK ⟨x,hx,?_⟩;dsimp only;rw[Tf h2,cond_true];refine fK ⟨out'[k'],by rw[FB,gG h2],?_⟩;refine next _ (by rw[adh,h3];simp;omega) (fun r hr'=>?_);rcases alJ hr' with h|h
   .exact h4 r h
   .rw[h];exact⟨hxm,hid⟩
 obtain⟨l,h1,h2,h3⟩:=key b.Rows.length 0 n [] RS h aB aB;exact⟨l.2,by rw[ax3];exact bs h1 rfl,h2,h3⟩
theorem Kv {J:Type}{P:J->Prop}{a k:Nat}{o:Option J}(ho:∃r,o=some r/\P r)(h:a<2^31)(hk:k<=2^12:=by omega):∃r,(bif cK a k then o else none)=some r/\P r:=by
 have:cK a k=true:=by
  unfold cK;have h1:a*k<=2^31*2^12:=Nat.mul_le_mul (Nat.le_of_lt h) hk;have e:(2:Nat)^31*2^12<=2^47:=aL
  rw[aZ,decide_eq_true_iff,decide_eq_true_iff];exact⟨RS,RS⟩
 rw[this];exact ho
def Dd (c:Int)(r r':Row):Prop:=r'=r\/(r.eB=0/\r'=⟨r.Entry,c⟩)
theorem Dd.entry {c:Int}{r r':Row}(h:Dd c r r'):r'.Entry=r.Entry:=by rcases h with h| ⟨_,h⟩<;>rw[h]
theorem azJ (id qV c:Int)(r:Row):Dd c r (yJ id qV c r):=by
 unfold yJ;split
 .rename_i h;exact .inr ⟨h.2.2.1,rfl⟩
 .exact .inl rfl
theorem Dd.trans {c:Int}(hc:c≠0){r r1 r2:Row}(h:Dd c r r1)(g:Dd c r1 r2):Dd c r r2:=by
 rcases h with rfl| ⟨h1,rfl⟩
 .exact g
 .rcases g with rfl| ⟨g1,_⟩
  .exact .inr ⟨h1,rfl⟩
  .exact absurd g1 hc
def yK (r:Row):Int×Int:=(r.Entry.ID,r.Entry.eu)
structure CI (n:Nat)(e:Event)(lV:List Row)(v:Int)(i:Nat)(ver:Int)(rows added:List Row):Prop where
 f:∃f:Row->Row,rows=lV.map f/\∀r,Dd e.aN r (f r)
 v1:v<=ver
 v2:ver<=v+i
 len:added.length<=i
 add:∀r∈added,r.eB=0/\yI r.Entry n/\r.Entry.ID=e.ID/\v<r.Entry.eu/\r.Entry.eu<=ver
 UF:(added.map yK).Nodup
theorem CI.length {n:Nat}{e:Event}{lV:List Row}{v:Int}{i:Nat}{ver:Int}{rows added:List Row}(h:CI n e lV v i ver rows added):rows.length=lV.length:=by obtain⟨f,rfl,_⟩:=h.f;simp
theorem CI.die {n:Nat}{e:Event}{lV:List Row}{v:Int}{i:Nat}{ver:Int}{rows added:List Row}(h:CI n e lV v i ver rows added)(hc:1<=e.aN)(qV:Int):CI n e lV v i ver (rows.map (yJ e.ID qV e.aN)) added:=by obtain⟨f,rfl,hf⟩:=h.f;exact {h with f:=⟨fun r=>yJ e.ID qV e.aN (f r),by rw[yT];rfl,fun r=>(hf r).trans RS (azJ _ _ _ _)⟩}
theorem CI.next {n:Nat}{e:Event}{lV:List Row}{v:Int}{i:Nat}{ver:Int}{rows added:List Row}(h:CI n e lV v i ver rows added):CI n e lV v (i+1) ver rows added:=
 {h with v2:=by have:=h.v2;omega,len:=by have:=h.len;omega}
theorem CI.push {n:Nat}{e:Event}{lV:List Row}{v:Int}{i:Nat}{ver:Int}{rows added:List Row}(h:CI n e lV v i ver rows added){y:Row}(h1:y.eB=0)(h2:yI y.Entry n)(h3:y.Entry.ID=e.ID)(h4:y.Entry.eu=ver+1):CI n e lV v (i+1) (ver+1) rows (added++[y]):=by
 have v1:=h.v1;have v2:=h.v2;have len:=h.len;refine⟨h.f,RS,RS,wh,fun r hr=>?_,?_⟩
 .rcases qB.1 hr with hr|hr
  .obtain⟨a1,a2,a3,a4,a5⟩:=h.add r hr;exact⟨a1,a2,a3,a4,RS⟩
  .rw[iZ.1 hr];exact⟨h1,h2,h3,RS,RS⟩
 .rw[pF,List.nodup_append];refine⟨h.UF,aB,fun a ha b hb=>?_⟩;obtain⟨r,hr,rfl⟩:=tH.1 ha;have hb':b=yK y:=Gg
  obtain⟨_,_,_,_,a5⟩:=h.add r hr;rw[hb'];intro hk;have:=congrArg Prod.snd hk;simp only[yK] at this;omega
theorem azK {n:Nat}{x:Entry}{v f t c:Int}(h:yI x n)(h1:rI f)(h2:rI t)(h3:rI c):yI (⟨x.ID,v,x.gK,x.jF,f,t,c,x.Vec,x.aY⟩:Entry) n:=⟨h.1,h.2.1,h.2.2.1,h.2.2.2.1,h.2.2.2.2.1,⟨h.2.2.2.2.2.1.1,h.2.2.2.2.2.1.2.1,h.2.2.2.2.2.1.2.2.1,h1,h2,h3⟩,h.2.2.2.2.2.2⟩
theorem azL {n:Nat}{b:Book}{e:Event}{l:List Row}{to:List dO}{more:Entry}{lV:List Row}{v:Int}(hn:2^20<n)(hl:l.length<=65536)(hlt:to.length=l.length)(hlr:∀r∈l,yI r.Entry n/\r.Entry.ID=e.ID)(hto:∀d∈to,rI d.from_/\rI d.to)(hc2:rI e.aN)(hc:1<=e.aN)(hr0:lV.length<=65536)(hv0:0<=v)(hv1:v<2^50):
 ∀(k i m:Nat)(ver:Int)(rows added:List Row),i+k=l.length->k<m->CI n e lV v i ver rows added->
 ∃q:Int×(List Row)×List Row,xw n b e l to more m (ver,(rows,(added,(i:Int))))=some q/\CI n e lV v l.length q.1 q.2.1 q.2.2:=by
 intro k;induction k with
 |zero=>
  intro i m ver rows added hi hm h1;obtain⟨m,rfl⟩:∃m',m=m'+1:=⟨m-1,RS⟩;obtain rfl:i=l.length:=RS
  exact⟨_,by rw[ac4,decide_eq_false RS];rfl,h1⟩
 |succ k ih=>
  intro i m ver rows added hi hm h1;obtain⟨m,rfl⟩:∃m',m=m'+1:=⟨m-1,RS⟩;have hrl:=h1.length;have v1:=h1.v1;have v2:=h1.v2;have hal:=h1.len;obtain⟨x,hx,hxm⟩:=Di (l:=l) (i:=i) RS;obtain⟨d,hd,alK⟩:=Di (l:=to) (i:=i) RS;have alL:=fun qV=>azG (n:=n) (rows:=rows) (id:=e.ID) (qV:=qV) (commit:=e.aN) RS RS;have nx:∀(ver:Int)(rows' sW:List Row),CI n e lV v (i+1) ver rows' sW->
   ∃q:Int×(List Row)×List Row,xw n b e l to more m (ver,(rows',(sW,IntKind.wrap .i64 ((i:Int)+(1:Int)))))=some q/\CI n e lV v l.length q.1 q.2.1 q.2.2:=fun ver rows' sW k1=>by
   rw[fU RS];exact ih (i+1) m ver rows' sW RS RS k1
  have hw:IntKind.wrap .i64 (ver+(1:Int))=ver+1:=iy RS RS;have grow:∀(c:Bool)(rows':List Row),CI n e lV v i ver rows' added->∃q:Int×(List Row)×List Row,(bif c then (aK to (i:Int)).bind fun (pU:dO)=>(aK to (i:Int)).bind fun (sS:dO)=>bif cK (added.length+([(⟨(⟨x.Entry.ID,ver+1,x.Entry.gK,x.Entry.jF,pU.from_,sS.to,e.aN,x.Entry.Vec,x.Entry.aY⟩:Entry),(0:Int)⟩:Row)].length)) 112 then xw n b e l to more m ((ver+1,(rows',(added++[(⟨(⟨x.Entry.ID,ver+1,x.Entry.gK,x.Entry.jF,pU.from_,sS.to,e.aN,x.Entry.Vec,x.Entry.aY⟩:Entry),(0:Int)⟩:Row)],Go.IntKind.wrap .i64 ((i:Int)+(1:Int))))))else none else xw n b e l to more m ((ver,(rows',(added,Go.IntKind.wrap .i64 ((i:Int)+(1:Int)))))))=some q/\CI n e lV v l.length q.1 q.2.1 q.2.2:=by
   intro c rows' k1;refine kF (fun _=>?_) (fun _=>nx _ _ _ k1.next);refine fK ⟨d,hd,?_⟩;refine fK ⟨d,hd,?_⟩;exact Kv (nx _ _ _ (k1.push rfl (azK (hlr x hxm).1 (hto d alK).1 (hto d alK).2 hc2) (hlr x hxm).2 rfl)) dP
  rw[ac4,decide_eq_true RS,cond_true,hw];refine fK ⟨x,hx,?_⟩;refine fK ⟨d,hd,?_⟩;refine kF (fun _=>?_) (fun _=>?_)
  .refine fK ⟨d,hd,?_⟩;refine kF (fun _=>nx _ _ _ h1.next) (fun _=>?_);refine fK ⟨_,alL _,?_⟩;refine fK ⟨d,hd,?_⟩;refine fK ⟨d,hd,?_⟩;exact grow _ _ (h1.die hc _)
  .refine fK ⟨_,alL _,?_⟩;refine fK ⟨d,hd,?_⟩;refine fK ⟨d,hd,?_⟩;exact grow _ _ (h1.die hc _)
theorem azM {n:Nat}{b:Book}{id V:Int}(h:b.Rows.length<n)(hb:b.Rows.length<2^62)(hV:∀r∈b.Rows,r.Entry.eu<=V)(azN:0<=V):∃v:Int,NZ n (b,id)=some v/\0<=v/\v<=V/\∀r∈b.Rows,r.Entry.ID=id->r.Entry.eu<=v:=by
 have key:∀(k i m:Nat)(s:Int),i+k=b.Rows.length->k<m->0<=s->s<=V->(∀r∈b.Rows.take i,r.Entry.ID=id->r.Entry.eu<=s)->∃v:Int,Ka n b id m (s,(i:Int))=some v/\0<=v/\v<=V/\∀r∈b.Rows,r.Entry.ID=id->r.Entry.eu<=v:=by
  intro k;induction k with
  |zero=>intro i m s hi hm h0 h1 h2;obtain⟨m,rfl⟩:∃m',m=m'+1:=⟨m-1,RS⟩;rw[akY,decide_eq_false RS];rw[qZ RS] at h2;exact⟨s,rfl,h0,h1,h2⟩
  |succ k ih=>
   intro i m s hi hm h0 h1 h2;obtain⟨m,rfl⟩:∃m',m=m'+1:=⟨m-1,RS⟩;have hlt:i<b.Rows.length:=RS
   have hx:b.Rows[i]? =some b.Rows[i]:=gG hlt;have hxm:b.Rows[i]∈b.Rows:=lX hlt;have ht:b.Rows.take (i+1)=b.Rows.take i++[b.Rows[i]]:=by rw[List.take_add_one,hx];rfl
   have aBA:=hV _ hxm;rw[akY,jm hx,fU RS,cond_true];refine fK ⟨_,fF hx,?_⟩;refine kF (fun hid=>?_) (fun hid=>?_)
   .refine fK ⟨_,fF hx,?_⟩;refine ih (i+1) m _ RS RS (by unfold imax;split<;>omega) (by unfold imax;split<;>omega) (fun r hr hr2=>?_);rw[ht] at hr;rcases qB.1 hr with hr|hr
    .have:=h2 r hr hr2;unfold imax;split<;>omega
    .rw[iZ.1 hr];unfold imax;split<;>omega
   .refine ih (i+1) m _ RS RS h0 h1 (fun r hr hr2=>?_);rw[ht] at hr;rcases qB.1 hr with hr|hr
    .exact h2 r hr hr2
    .rw[iZ.1 hr] at hr2;rw[hr2] at hid;simp at hid
 obtain⟨v,h1,h2⟩:=key b.Rows.length 0 n 0 RS h (yV _) azN aB;exact⟨v,by rw[axZ];exact bs h1 rfl,h2⟩
end Sh
end
