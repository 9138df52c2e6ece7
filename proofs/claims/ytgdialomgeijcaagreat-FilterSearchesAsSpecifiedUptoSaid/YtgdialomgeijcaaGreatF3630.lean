import Derived.Test.YtgdialomgeijcaaGreatF3629
set_option linter.all false
section
open Go Go.Proofs Aq Pq
namespace Sh
end Sh
end
section
open Go Go.Proofs Aq Pq
namespace Sh
end Sh
end
section
open Go Go.Proofs Aq Pq
namespace Sh
theorem awP {n:Nat}{s:Rm}(h:ac4 s n)(hn:6<n):∃b:Bool,Xh n s=some b:=by obtain⟨b,hb⟩:=awE (k:=16) h;obtain⟨e,he⟩:=afA (c:=b) (o:=Zq n s) (d:=(0:Int)) (fun _=>awD h hn);rw[anR,hb];refine⟨_,bs rfl (bs he rfl)⟩
theorem aps (d:Def):d.Name.length+d.Words.length+1<=Ut (Def.v d)/\∀w∈d.Words,w.length+1<=Ut (Def.v d):=by have e:Ut (Def.v d)=(d.Name.length+1)+(1+(1+(1+(VG (d.Words.map V.str)+1+0)))):=rfl;have h1:=ao7 V.str (fun x=>by simp[Ut]) d.Words;refine⟨by omega,fun w hw=>?_⟩;have h2:=ao6 V.str hw;have h3:Ut (V.str w)=w.length+1:=rfl;omega
theorem awQ {s:Rm}{n k:Nat}(h:Ut (Rm.v s)<=k)(hk:k<n)(hk2:k<2^62):ac4 s n:=by have e:Ut (Rm.v s)=1+(1+(VG (s.Defs.map Def.v)+1+0)):=rfl;have h1:=ao7 Def.v (fun x=>by have:=(aps x).1;omega) s.Defs;refine⟨by omega,by omega,fun d hd=>?_⟩;have h2:=ao6 Def.v hd;have h3:=aps d;have h4:=h3.1;refine⟨by omega,by omega,by omega,by omega,fun w hw=>?_⟩;have:=h3.2 w hw;exact⟨by omega,by omega⟩
end Sh
end
section
open Go Go.Proofs Aq Pq
namespace Sh
theorem iB {U β:Type}{o:Option U}{f:U->Option β}{r:β}(h:o.bind f=some r):∃a,o=some a/\f a=some r:=iP.1 h
theorem iC {U:Type}{c:Bool}{a b:Option U}{r:U}(h:(bif c then a else b)=some r):(c=true/\a=some r)\/(c=false/\b=some r):=by
 cases c
 .exact .inr ⟨rfl,h⟩
 .exact .inl ⟨rfl,h⟩
theorem iS {U:Type}{a b:U}(h:some a=some b):a=b:=P8 h
def alm (n:Nat)(x:List UInt8)(d:Def):Prop:=
 ((Go.Op.bytesLess d.Name x)||(d.Name==x))=false/\((d.Kind=1/\ -(2^40)<=d.Lo/\d.Hi<=2^40/\d.Lo<=d.Hi/\d.Words=[])\/(d.Kind=2/\d.Lo=0/\d.Hi=0/\Zf n d.Words=some (0:Int)))
theorem awR {n:Nat}{d:Def}{x:List UInt8}(h:Xa n (d,x)=some (0:Int)):alm n x d:=by
 have h:=(anO n d x).symm.trans h;obtain⟨b,hb,h⟩:=iB h;rcases iC h with ⟨_,h⟩| ⟨_,h⟩
 .exact absurd (iS h) (by decide)
 rcases iC h with ⟨_,h⟩| ⟨hname,h⟩
 .exact absurd (iS h) (by decide)
 refine⟨hname,?_⟩;rcases iC h with ⟨hk,h⟩| ⟨hk,h⟩
 .have hk:d.Kind=1:=by simpa using hk
  rcases iC h with ⟨_,h⟩| ⟨hr,h⟩
  .exact absurd (iS h) (by decide)
  rcases iC h with ⟨_,h⟩| ⟨hw,h⟩
  .exact absurd (iS h) (by decide)
  refine .inl ⟨hk,?_⟩;have a1:¬d.Lo< (-1099511627776:Int):=fun k=>by rw[decide_eq_true k] at hr;cases hr
  rw[decide_eq_false a1,cond_false] at hr;have a2:¬d.Hi> (1099511627776:Int):=fun k=>by rw[decide_eq_true k] at hr;cases hr
  rw[decide_eq_false a2,cond_false] at hr;have a3:=of_decide_eq_false hr;have a4:=of_decide_eq_false hw;refine⟨by omega,by omega,by omega,?_⟩;exact Qm (by omega)
 .rcases iC h with ⟨hk2,h⟩| ⟨hk2,h⟩
  .have hk2:d.Kind=2:=by simpa using hk2
   rcases iC h with ⟨_,h⟩| ⟨hr,h⟩
   .exact absurd (iS h) (by decide)
   refine .inr ⟨hk2,?_⟩;obtain⟨e,he,h⟩:=iB (U:=Int) h;have he0:e=0:=iS h;subst he0;have a1:d.Lo=0:=by
    cases hl:d.Lo !=(0:Int) with
    |true=>rw[hl] at hr;cases hr|false=>simpa using hl
   have a2:d.Hi=0:=by
    rw[a1] at hr;cases hl:d.Hi !=(0:Int) with
    |true=>rw[hl] at hr;cases hr|false=>simpa using hl
   exact⟨a1,a2,he⟩
  .exact absurd (iS h) (by decide)
def ChD (n:Nat):List UInt8->List Def->Prop
 |_,[]=>True|x,d::ds=>alm n x d/\ChD n d.Name ds
theorem awS {n:Nat}{s:Rm}(hb:s.Defs.length<2^62):∀(k i m:Nat)(x:List UInt8)(r:PUnit⊕Int),i+k=s.Defs.length->Z5 n s m (x,(i:Int))=some r->(r= .inl ()/\ChD n x (s.Defs.drop i))\/∃e,r= .inr e/\e≠0:=by
 intro k;induction k with
 |zero=>
  intro i m x r hi h;cases m with
  |zero=>have h:=(anP ..).symm.trans h;cases h|succ m=>
   obtain rfl:i=s.Defs.length:=by omega
   have h:=(af5 ..).symm.trans h;rw[Uj,cond_false] at h;refine .inl ⟨(iS h).symm,?_⟩;rw[List.drop_length];trivial
 |succ k ih=>
  intro i m x r hi h;cases m with
  |zero=>have h:=(anP ..).symm.trans h;cases h|succ m=>
   have hlt:i<s.Defs.length:=by omega
   have hx:s.Defs[i]? =some s.Defs[i]:=PX hlt;have h:=(af5 ..).symm.trans h;rw[TH hx,cond_true] at h;obtain⟨d,hd,h⟩:=iB h;have e1:=(Td hx).symm.trans hd;have e1:=iS e1;subst e1;obtain⟨e,he,h⟩:=iB (U:=Int) h;rcases iC h with ⟨h0,h⟩| ⟨h0,h⟩
   .exact .inr ⟨e,(iS h).symm,by simpa using h0⟩
   .have h0:e=0:=(by simpa using h0);subst h0;obtain⟨d2,hd2,h⟩:=iB h;have e2:=iS ((Td hx).symm.trans hd2);subst e2;rw[TA (by omega)] at h;rcases ih (i+1) m _ r (by omega) h with ⟨h1,h2⟩|h1
    .refine .inl ⟨h1,?_⟩;rw[Qd hlt];exact⟨awR he,h2⟩
    .exact .inr h1
structure abZ (n:Nat)(s:Rm):Prop where
 few:s.Defs.length<=16
 chain:ChD n [] s.Defs
theorem awT {n:Nat}{s:Rm}(hb:s.Defs.length<2^62)(h:Zq n s=some (0:Int)):abZ n s:=by
 have h:=(anQ n s).symm.trans h;obtain⟨b,_,h⟩:=iB h;rcases iC h with ⟨_,h⟩| ⟨_,h⟩
 .exact absurd (iS h) (by decide)
 rcases iC h with ⟨_,h⟩| ⟨hl,h⟩
 .exact absurd (iS h) (by decide)
 obtain⟨r,hr,h⟩:=iB h;have hl:=of_decide_eq_false hl;rcases awS hb s.Defs.length 0 n [] r (by omega) hr with ⟨_,h2⟩| ⟨e,rfl,he⟩
 .exact⟨by omega,h2⟩
 .exact absurd (iS h) he
theorem apt {n:Nat}{s:Rm}(hb:s.Defs.length<2^62)(h:Xh n s=some true):abZ n s:=by
 have h:=(anR n s).symm.trans h;obtain⟨b,_,h⟩:=iB h;obtain⟨e,he,h⟩:=iB (U:=Int) h;have h:=iS h;cases b with
 |false=>cases h|true=>
  have h:(e==(0:Int))=true:=h;have h0:e=0:=by simpa using h
  subst h0;exact awT hb he
theorem ChD.mem {n:Nat}:∀{l:List Def}{x:List UInt8}{d:Def},ChD n x l->d∈l->∃y,alm n y d
 |d'::l,x,d,h,hd=>by
  rcases PI.1 hd with rfl|hd
  .exact⟨x,h.1⟩
  .exact h.2.mem hd
theorem awU {n:Nat}{l:List (List UInt8)}(h:Zf n l=some (0:Int)):1<=l.length/\l.length<=50:=by
 have h:=(anN n l).symm.trans h;rcases iC h with ⟨_,h⟩| ⟨hl,h⟩
 .exact absurd (iS h) (by decide)
 .have a1:¬(l.length:Int)< (1:Int):=fun k=>by rw[decide_eq_true k] at hl;cases hl
  rw[decide_eq_false a1,cond_false] at hl;have:=of_decide_eq_false hl;omega
theorem abZ.defs {n:Nat}{s:Rm}(h:abZ n s)(hn:800<n){d:Def}(hd:d∈s.Defs):aaF n d:=by
 obtain⟨y,_,h1|h1⟩:=h.chain.mem hd
 .obtain⟨k,a,b,c,w⟩:=h1;exact⟨.inl k,a,c,b,by rw[w];decide,by rw[w];show 0<n;omega⟩
 .obtain⟨k,a,b,w⟩:=h1;have:=awU w;exact⟨.inr k,by omega,by omega,by omega,by omega,by omega⟩
def XZ (nm:List UInt8)(x:Pred):Bool:=bif decide (x.Op>=(5:Int)) then x.Name==nm else false
def UE (s:Rm)(l:List Pred):List (List (Option Attr)):=(s.Defs.filter fun d=>l.any (XZ d.Name)).map fun d=>Yq d l
theorem apu {n:Nat}{s:Rm}{p:Pred}{i:Int}{d:Def}{cs:List Q7}(hc:Zp n (d,p)=some cs):∀(l:List Pred)(t:List (List Q7)),t.length<2^20->acZ n s p i d l ((),t)=some (if l.any (XZ d.Name)=true then .inr ((),t++[cs]) else .inl ((),t))
 | [],t,_=>avg ..|x::l,t,ht=>by
  rw[avh];change (bif XZ d.Name x then _ else _)=_;rw[List.any_cons];cases hx:XZ d.Name x with
  |true=>rw[cond_true];refine bs (show Zp n (d,p.re)=some cs by rw[Pred.Sr];exact hc) ?_;refine(show (bif R7 (t.length+1) 24 then _ else none)=_ from ?_);rw[WX (by omega) (by omega)];rfl|false=>rw[cond_false,apu hc l t ht];rfl
theorem awV {n:Nat}(hn:800<n){s:Rm}{p:Pred}(hd:∀d∈s.Defs,aaF n d)(h:RA p<=240)(hb:s.Defs.length<=16):∀(k i m:Nat)(t:List (List Q7)),i+k=s.Defs.length->k<m->t.length<=i->
 abh n s p m ((i:Int),t)=some ((),t++((s.Defs.drop i).filter fun d=>(pre p).any (XZ d.Name)).map fun d=>(Yq d (pre p)).map Vf):=by
 intro k;induction k with
 |zero=>
  intro i m t hi hm _;obtain⟨m,rfl⟩:∃m',m=m'+1:=⟨m-1,by omega⟩;obtain rfl:i=s.Defs.length:=by omega
  rw[aor,Uj,cond_false,List.drop_length];simp
 |succ k ih=>
  intro i m t hi hm ht;obtain⟨m,rfl⟩:∃m',m=m'+1:=⟨m-1,by omega⟩;have hlt:i<s.Defs.length:=by omega
  have hx:s.Defs[i]? =some s.Defs[i]:=PX hlt;have hc:=awv hn (hd _ (Qj hx)) h;rw[aor,TH hx,cond_true,Qd hlt,TA (by omega)];refine bs (Td hx) (bs (acV n _) ?_);generalize s.Defs[i]=d at*;show Option.bind ((VN p.re.re).bind _) _=_;rw[Pred.Sr,Pred.Sr,ac0 (by omega),Option.bind_some];refine bs (apu hc (pre p) t (by omega)) ?_;cases ha:(pre p).any (XZ d.Name) with
  |true=>rw[if_pos rfl];show abh n s p m (((i+1:Nat):Int),t++[(Yq d (pre p)).map Vf])=_;rw[ih (i+1) m _ (by omega) (by omega) (by rw[PK,List.length_singleton];omega),List.filter_cons,if_pos ha,PU,Qc];rfl|false=>rw[if_neg (by simp)];show abh n s p m (((i+1:Nat):Int),t)=_;rw[ih (i+1) m _ (by omega) (by omega) (by omega),List.filter_cons,if_neg (by rw[ha];simp)]
theorem awW {n:Nat}(hn:800<n){s:Rm}{p:Pred}(hd:∀d∈s.Defs,aaF n d)(h:RA p<=240)(hb:s.Defs.length<=16):Zm n (s,p)=some ((UE s (pre p)).map (List.map Vf)):=by rw[avi];refine bs (awV hn hd h hb s.Defs.length 0 n [] (by omega) (by omega) (mF _)) ?_;unfold UE;rw[QF];rfl
theorem awX {n:Nat}{l:List Pred}{nm:List UInt8}(hb:l.length<2^62):∀(k i m:Nat),i+k=l.length->k<m->aee n l nm m (i:Int)=some (if (l.drop i).any (XZ nm)=true then .inr true else .inl ()):=by
 intro k;induction k with
 |zero=>
  intro i m hi hm;obtain⟨m,rfl⟩:∃m',m=m'+1:=⟨m-1,by omega⟩;obtain rfl:i=l.length:=by omega
  rw[anV,Uj,cond_false,List.drop_length];rfl
 |succ k ih=>
  intro i m hi hm;obtain⟨m,rfl⟩:∃m',m=m'+1:=⟨m-1,by omega⟩;have hlt:i<l.length:=by omega
  have hx:l[i]? =some l[i]:=PX hlt;have he:=Td hx;have ih':=ih (i+1) m (by omega) (by omega);rw[anV,TH hx,cond_true,Qd hlt,TA (by omega),List.any_cons];generalize l[i]=x at*;refine bs he ?_;unfold XZ at*;cases h5:decide (x.Op>=(5:Int)) with
  |false=>rw[alg,Option.bind_some,cond_false];exact ih'|true=>
   rw[alf];refine bs he ?_;rw[cond_true];cases hn:x.Name==nm with
   |false=>rw[cond_false];exact ih'|true=>rfl
theorem awY {n:Nat}{l:List Pred}{nm:List UInt8}(hb:l.length<2^62)(hn:l.length<n):ZM n (l,nm)=some (l.any (XZ nm)):=by rw[auz];refine bs (awX hb l.length 0 n (by omega) hn) ?_;rw[Qt];cases l.any (XZ nm)<;>rfl
theorem awZ {n:Nat}(hn:800<n){s:Rm}{l:List Pred}(hd:∀d∈s.Defs,aaF n d)(h:l.length<=240)(hb:s.Defs.length<=16):∀(k i m:Nat)(t:List (List Rv)),i+k=s.Defs.length->k<m->t.length<=i->
 acU n s l m (t,(i:Int))=some (t++((s.Defs.drop i).filter fun d=>l.any (XZ d.Name)).map fun d=>(Yq d l).map toR):=by
 intro k;induction k with
 |zero=>
  intro i m t hi hm _;obtain⟨m,rfl⟩:∃m',m=m'+1:=⟨m-1,by omega⟩;obtain rfl:i=s.Defs.length:=by omega
  rw[an2,Uj,cond_false,List.drop_length];simp
 |succ k ih=>
  intro i m t hi hm ht;obtain⟨m,rfl⟩:∃m',m=m'+1:=⟨m-1,by omega⟩;have hlt:i<s.Defs.length:=by omega
  have hx:s.Defs[i]? =some s.Defs[i]:=PX hlt;have hc:=aww hn (hd _ (Qj hx)) h;have he:=Td hx;rw[an2,TH hx,cond_true,Qd hlt,TA (by omega)];generalize s.Defs[i]=d at*;refine bs he (bs (awY (by omega) (by omega)) ?_);cases ha:l.any (XZ d.Name) with
  |true=>rw[cond_true];refine bs he (bs hc ?_);refine(show (bif R7 (t.length+1) 24 then _ else none)=_ from ?_);rw[WX (by omega) (by omega),cond_true,ih (i+1) m _ (by omega) (by omega) (by rw[PK,List.length_singleton];omega),List.filter_cons,if_pos ha,PU,Qc];rfl|false=>rw[cond_false,ih (i+1) m _ (by omega) (by omega) (by omega),List.filter_cons,if_neg (by rw[ha];simp)]
theorem apv {n:Nat}(hn:800<n){s:Rm}{p:Pred}(hd:∀d∈s.Defs,aaF n d)(h:RA p<=240)(hb:s.Defs.length<=16):ZG n (s,p)=some ((UE s (pre p)).map (List.map toR)):=by rw[auC];refine bs (show QY n p.re=some (pre p) by rw[Pred.Sr,ak2 (by omega) (by omega),Qx (by rw[WV];omega)]) ?_;refine bs (awZ hn hd (by rw[WV];exact h) hb s.Defs.length 0 n [] (by omega) (by omega) (mF _)) ?_;unfold UE;rw[QF];rfl
theorem aw0 {n:Nat}{t:List (List Rv)}(hb:t.length<2^62)(ht:∀l∈t,l.length<2^30):∀(k i m:Nat)(c:Int),i+k=t.length->k<m->0<=c->c<=4096->∃r,aei n t m (c,(i:Int))=some r/\Sum.elim id id r=VQ c ((t.drop i).map List.length):=by
 intro k;induction k with
 |zero=>
  intro i m c hi hm _ _;obtain⟨m,rfl⟩:∃m',m=m'+1:=⟨m-1,by omega⟩;obtain rfl:i=t.length:=by omega
  rw[an3,Uj,cond_false,List.drop_length];exact⟨_,rfl,rfl⟩
 |succ k ih=>
  intro i m c hi hm h0 h1;obtain⟨m,rfl⟩:∃m',m=m'+1:=⟨m-1,by omega⟩;have hlt:i<t.length:=by omega
  have hx:t[i]? =some t[i]:=PX hlt;obtain⟨m1,m2⟩:=am3 h0 h1 (ht _ (Qj hx));rw[an3,TH hx,cond_true,Qd hlt,TA (by omega),PU];refine tE (Td hx) ?_;have hw:IntKind.wrap .i64 (c*((t[i].length:Nat):Int))=c*((t[i].length:Nat):Int):=by rw[IntKind.wrap_i64];omega
  rw[hw];unfold VQ;by_cases hc:c*((t[i].length:Nat):Int)>4096
  .rw[decide_eq_true hc,cond_true,if_pos hc];exact⟨_,rfl,rfl⟩
  .rw[decide_eq_false hc,cond_false,if_neg hc];exact ih (i+1) m _ (by omega) (by omega) m1 (by omega)
theorem aw1 {n:Nat}{d:Def}{l:List Pred}(hd:aaF n d)(h:l.length<=240):(Yq d l).length<2^30:=by
 have h1:=ao5 d l;have h2:(abm d l).length<=d.Words.length:=alh _ _ _;have h3:=hd.words;unfold Yq;rw[List.length_cons];split
 .rw[PY];omega
 .rw[PY];omega
theorem apw (s:Rm)(l:List Pred):(UE s l).length<=s.Defs.length:=by unfold UE;rw[PY];exact List.length_filter_le _ _
theorem apx {n:Nat}{s:Rm}{l:List Pred}(hd:∀d∈s.Defs,aaF n d)(h:l.length<=240){c:List (Option Attr)}(hc:c∈UE s l):c.length<2^30:=by unfold UE at hc;obtain⟨d,hd',rfl⟩:=QE.1 hc;exact aw1 (hd d (List.mem_filter.1 hd').1) h
theorem apy {n:Nat}(hn:800<n){s:Rm}{p:Pred}(hs:abZ n s)(h:RA p<=240):ZK n (s,p)=some (VQ 1 ((UE s (pre p)).map List.length)):=by
 have hd:=fun d hd=>hs.defs hn (d:=d) hd;have hl:=apw s (pre p);have hf:=hs.few;rw[auD];refine bs (show ZG n (s,p.re)=_ by rw[Pred.Sr];exact apv hn hd h hs.few) ?_;obtain⟨r,h1,h2⟩:=aw0 (n:=n) (t:=(UE s (pre p)).map (List.map toR)) (by rw[PY];omega) (fun c hc=>by obtain⟨c',hc',rfl⟩:=QE.1 hc;rw[PY];exact apx hd (by rw[WV];exact h) hc') _ 0 n 1 (Qi _) (by rw[PY];omega) (by omega) (by omega);refine bs h1 ?_;rw[Qt,QF] at h2;have:(List.length∘List.map toR)=List.length:=by funext x;simp
 rw[this] at h2;rw[<-h2];cases r<;>rfl
end Sh
end
section
open Go Go.Proofs Aq Pq
namespace Sh
def findD (s:Rm)(x:List UInt8):Int:=match s.Defs.findIdx? (fun d=>d.Name==x) with
 |some i=>(i:Int)|none=>-1
theorem aw2 {n:Nat}{s:Rm}{x:List UInt8}(h:s.Defs.length<n)(hb:s.Defs.length<2^62):ZE n (s,x)=some (findD s x):=by
 have:=aa1 (L:=fun m i=>aep n s x m i) (l:=s.Defs) (fun d i r=>bif d.Name==x then some (.inr (i:Int)) else r) (some (.inl ()))
  (fun m i d hd=>by have hlt:=UW hd;rw[aos,TH hd,Td hd,TA (by omega)];rfl)
  (fun m=>by rw[aos,Uj];rfl) h
 rw[avm,this,acK (fun d:Def=>d.Name==x) (fun i=>(Sum.inr (i:Int):PUnit⊕Int)) (.inl ())];unfold findD;cases s.Defs.findIdx? (fun d=>d.Name==x) with
 |none=>rfl|some j=>simp;rfl
theorem aw3 (n:Nat)(p:Pred):Xc n p=some (aaG p):=by
 obtain⟨op,name,a,b,s,subs⟩:=p;rw[avl];simp only[awF,apc];have key:(bif bif bif bif decide (op< (5:Int)) then decide (name≠[]) else false then true else bif op !=(6:Int) then bif a !=(0:Int) then true else b !=(0:Int) else false then true else bif op !=(7:Int) then decide (s≠[]) else false then some false else bif decide (a>b) then some false else bif bif op==(2:Int) then true else op==(3:Int) then some (decide (subs≠[]))else bif op==(4:Int) then some ((subs.length:Int)==(1:Int))else some (decide (subs=[])))=some (aaG ⟨op,name,a,b,s,subs⟩):=by
  unfold aaG;dsimp only;by_cases c1:(op<5/\name≠[])\/(op≠6/\(a≠0\/b≠0))\/(op≠7/\s≠[])
  .rw[if_pos c1];have:(bif bif bif decide (op< (5:Int)) then decide (name≠[]) else false then true else bif op !=(6:Int) then bif a !=(0:Int) then true else b !=(0:Int) else false then true else bif op !=(7:Int) then decide (s≠[]) else false)=true:=by
    simp only[Bool.cond_true_right,Bool.cond_false_right,Bool.cond_true_left,QA,Pz,decide_eq_true_iff,bne_iff_ne];rcases c1 with c|c|c
    .exact .inl (.inl c)
    .exact .inl (.inr c)
    .exact .inr c
   rw[this];rfl
  .rw[if_neg c1];have:(bif bif bif decide (op< (5:Int)) then decide (name≠[]) else false then true else bif op !=(6:Int) then bif a !=(0:Int) then true else b !=(0:Int) else false then true else bif op !=(7:Int) then decide (s≠[]) else false)=false:=by
    rw[Bool.eq_false_iff];intro h;simp only[Bool.cond_true_right,Bool.cond_false_right,Bool.cond_true_left,QA,Pz,decide_eq_true_iff,bne_iff_ne] at h;rcases h with (h|h)|h
    .exact c1 (.inl h)
    .exact c1 (.inr (.inl h))
    .exact c1 (.inr (.inr h))
   rw[this,cond_false];by_cases c2:a>b
   .rw[if_pos c2,decide_eq_true c2];rfl
   .rw[if_neg c2,decide_eq_false c2,cond_false];by_cases c3:op=2\/op=3
    .rw[if_pos c3];have:(bif op==(2:Int) then true else op==(3:Int))=true:=(by rcases c3 with rfl|rfl<;>rfl);rw[this];rfl
    .rw[if_neg c3];have:(bif op==(2:Int) then true else op==(3:Int))=false:=(by rw[Bool.eq_false_iff];intro h;simp at h;exact c3 h);rw[this,cond_false];by_cases c4:op=4
     .rw[if_pos c4,c4];show some _=some _;congr 1;rw[Bool.eq_iff_iff];simp;omega
     .rw[if_neg c4];have:(op==(4:Int))=false:=(by simpa using c4);rw[this];rfl
 exact key
theorem aln {n:Nat}{s:Rm}{p:Pred}(hn:RA p<n)(hp:RA p<2^62)(hd:s.Defs.length<n)(hdb:s.Defs.length<2^62)(hk:1000<n):
 Zk n (s,p)=some (if ((pre p).take 1000).length>64 then 2 else (aaH s ((pre p).take 1000)).getD 0):=by
 generalize hl:(pre p).take 1000=l;have hlen:l.length<=1000:=by rw[<-hl,Qa];omega
 have:=aa1 (L:=fun m i=>aaC n s l m i) (l:=l) (fun x _ r=>match abn s x with|some e=>some (Sum.inr e:PUnit⊕Int)|none=>r) (some (.inl ()))
  (fun m i x hx=>by
    have hlt:=UW hx;show aaC n s l (m+1) (i:Int)=_;rw[aot,TH hx,Td hx,TA (by omega)];simp only[cond_true,Option.bind_some,Pred.Sr];rw[aw3,aw2 hd hdb];unfold abn;by_cases c1:x.Op<1\/x.Op>7
    .rw[if_pos c1];have:(bif decide (x.Op< (1:Int)) then true else decide (x.Op> (7:Int)))=true:=by
      rcases c1 with c|c
      .rw[decide_eq_true c];rfl
      .rw[decide_eq_true c];cases decide (x.Op<1)<;>rfl
     rw[this];rfl
    .rw[if_neg c1];have:(bif decide (x.Op< (1:Int)) then true else decide (x.Op> (7:Int)))=false:=(by rw[decide_eq_false (by omega),decide_eq_false (by omega)];rfl);rw[this,cond_false];cases hform:aaG x
     .rw[if_pos rfl];rfl
     .rw[if_neg (by simp)];show (bif !true then some (.inr (3:Int)) else bif decide (x.Op< (5:Int)) then _ else _)=_;by_cases c2:x.Op<5
      .rw[if_pos c2,decide_eq_true c2];rfl
      .rw[if_neg c2,decide_eq_false c2];have hg:=afC (fun d:Def=>d.Name==x.Name) s.Defs;rw[<-hg];rw[Bool.not_true,cond_false,cond_false];show Option.bind (some (findD s x.Name)) _=_;rw[Option.bind_some];unfold findD;cases hf:s.Defs.findIdx? (fun d=>d.Name==x.Name) with
       |none=>rfl|some j=>
        obtain⟨hj,_,_⟩:=List.findIdx?_eq_some_iff_getElem.1 hf;have hi:Fb s.Defs ((j:Nat):Int)=some s.Defs[j]:=(by rw[adL,PX hj]);dsimp only;rw[PX hj,hi];dsimp only;have e:decide (((j:Nat):Int)< (0:Int))=false:=(by simp);rw[e,cond_false];generalize s.Defs[j]=d;have o:x.Op=5\/x.Op=6\/x.Op=7:=(by omega);by_cases k1:d.Kind=1<;>by_cases k2:d.Kind=2<;>rcases o with o|o|o<;>simp[o,k1,k2,Ur]<;>first
         | (have h1:(d.Kind !=(1:Int))=true:=bne_iff_ne.2 (by omega);rw[h1];rfl)
         | (have h2:(d.Kind !=(2:Int))=true:=bne_iff_ne.2 (by omega);rw[h2];rfl))
  (fun m=>by show aaC n s l (m+1) (l.length:Int)=_;rw[aot,Uj];rfl) (show l.length<n by omega)
 have abO:aaC n s l n (0:Int)=_:=this;rw[avn,Pred.Sr,ak2 hn hp,hl];show (bif decide ((l.length:Int)> (64:Int)) then some (2:Int) else _)=_;by_cases c:l.length>64
 .rw[if_pos c,decide_eq_true (by omega)];rfl
 .rw[if_neg c,decide_eq_false (by omega),cond_false,abO];refine bs (apd (abn s) l 0) ?_;rw[ape];cases l.findSome? (abn s)<;>rfl
theorem aw4:(fun x=>toQ (Vf x))=toR:=by funext x;cases x<;>rfl
theorem aw5 (t:List (List (Option Attr))):(t.map (List.map Vf)).map (List.map toQ)=t.map (List.map toR):=by rw[QF];congr 1;funext c;show (c.map Vf).map toQ=c.map toR;rw[QF,<-aw4];rfl
theorem aw6 (s:Rm)(l:List Pred):∀c∈(UE s l).map (List.map Vf),0<c.length:=by intro c hc;obtain⟨c',hc',rfl⟩:=QE.1 hc;unfold UE at hc';obtain⟨d,_,rfl⟩:=QE.1 hc';rw[PY];unfold Yq;rw[List.length_cons];omega
theorem apz:∀(t:List (List Q7))(c:Nat),(∀x∈t,0<x.length)->0<c->c<=4096->VQ (c:Int) (t.map List.length)<=4096->c*RJ t<=4096
 | [],c,_,_,h,_=>by show c*1<=4096;omega|x::t,c,h,h0,h1,h2=>by
  have hx:=h x (PN ..);have hp:RJ (x::t)=x.length*RJ t:=rfl;rw[PU] at h2;unfold VQ at h2;split at h2
  .omega
  .rename_i hc;rw[<-Int.natCast_mul] at h2 hc;rw[hp,<-Nat.mul_assoc];exact apz t (c*x.length) (fun y hy=>h y (PV _ hy)) (Nat.mul_pos h0 hx) (by omega) h2
def TJ (s:Rm)(p:Pred):Int:=if ((pre p).take 1000).length>64 then 2 else (aaH s ((pre p).take 1000)).getD 0
theorem aw7 {s:Rm}{p:Pred}(h:TJ s p=0):RA p<=64:=by
 unfold TJ at h;split at h
 .cases h
 .rename_i h1;rw[Qa,WV] at h1;omega
theorem aw8 (hs:List Attr->Bool)(t:List (List Q7)):(VL hs t).1.length<=t.length:=by
 unfold VL;split
 .exact aha ..
 .exact Ql _
theorem apA {n:Nat}{s:Rm}{p:Pred}(hS:abZ n s)(hd:s.Defs.length<n)(hn:6000<n)(hp:RA p<n)(hp2:RA p<2^62):∃(L:List Attr) (b:Bool) (e:Int),Xe n (s,p)=some (L,(b,e))/\Xf n (s,p)=some ⟨L,b,e⟩/\L.length<=16:=by
 have hf:=hS.few;have hC:=alk (n:=n) (s:=s) (p:=p) hp2 hd (by omega);have hR:=aln (n:=n) (s:=s) (p:=p) hp hp2 hd (by omega) (by omega);have hC:Zn n (s,p)=some (TJ s p):=hC;have hR:Zk n (s,p)=some (TJ s p):=hR;rw[avj,avo];simp only[Pred.Sr];by_cases he:TJ s p=0
 .have hsz:=aw7 he;rw[he] at hC hR;have hdd:=fun d hd=>hS.defs (by omega) (d:=d) hd;have hT:=awW (n:=n) (by omega) (p:=p) hdd (by omega) hf;have hTR:=apv (n:=n) (by omega) (p:=p) hdd (by omega) hf;have hCR:=apy (n:=n) (by omega) (p:=p) hS (by omega);have hlen:((UE s (pre p)).map (List.map Vf)).length<=16:=by rw[PY];exact PD (apw ..) hf
  have hpos:=aw6 s (pre p);have hrow:∀c∈(UE s (pre p)).map (List.map Vf),c.length<2^30:=fun c hc=>by obtain⟨c',hc',rfl⟩:=QE.1 hc;rw[PY];exact apx hdd (by rw[WV];omega) hc'
  have hcnt:=am4 (n:=n) (t:=(UE s (pre p)).map (List.map Vf)) (by omega) (by omega) hrow;have hll:((UE s (pre p)).map (List.map Vf)).map List.length=(UE s (pre p)).map List.length:=by
   rw[QF];have:(List.length∘List.map Vf)=List.length:=by funext x;simp
   rw[this]
  rw[hll] at hcnt;have hq:=aw5 (UE s (pre p));have hcs:=apz ((UE s (pre p)).map (List.map Vf)) 1 hpos (by omega) (by omega);rw[hll] at hcs;generalize (UE s (pre p)).map (List.map Vf)=t at hT hlen hpos hrow hcnt hq hcs;generalize (UE s (pre p)).map (List.map toR)=r at hTR hq;generalize (UE s (pre p)).map List.length=ll at hcnt hCR hcs;by_cases hbig:VQ 1 ll>4096
  .refine⟨[],false,2,bs hC ?_,bs hR ?_,Ql _⟩
   .show (bif false then _ else _)=_;rw[cond_false];refine bs hT (bs hcnt ?_);rw[decide_eq_true hbig];rfl
   .show (bif false then _ else _)=_;rw[cond_false];refine bs hCR ?_;rw[decide_eq_true hbig];rfl
  .have hprod:RJ t<=4096:=by have:=hcs (by show VQ 1 ll<=4096;omega);omega
   have hO:abM t p=some (VL (fun l=>Sn l p) t):=by unfold abM;rw[if_pos ⟨by omega,hpos,hprod,hp2⟩]
   obtain⟨z,hz⟩:=find_spec (n:=n) (p:=p) hp hp2 t r n [] hq.symm (fun c hc=>⟨hrow c hc,by have:=ahL hpos c hc;omega⟩) (by rw[List.length_nil];omega) (by rw[List.length_nil];omega) (by omega);have hz:Za n (r,([],p))=some (aes z (Ww (fun l=>Sn l p) t [])):=by unfold Za;exact hz
   have hE:=avs (hs:=fun l=>Sn l p) hpos;have hL:=aw8 (fun l=>Sn l p) t;refine⟨(VL (fun l=>Sn l p) t).1,(VL (fun l=>Sn l p) t).2,0,bs hC ?_,bs hR ?_,by omega⟩
   .show (bif false then _ else _)=_;rw[cond_false];refine bs hT (bs hcnt ?_);rw[decide_eq_false hbig,cond_false];exact bs ((atU n (t,p)).trans hO) rfl
   .show (bif false then _ else _)=_;rw[cond_false];refine bs hCR ?_;rw[decide_eq_false hbig,cond_false];refine bs hTR (bs hz ?_);rw[hE];cases Ww (fun l=>Sn l p) t []<;>rfl
 .have e0:(TJ s p !=(0:Int))=true:=by simpa using he
  refine⟨[],false,TJ s p,bs hC ?_,bs hR ?_,Ql _⟩
  .rw[e0];rfl
  .rw[e0];rfl
def andNot (a b:Pred):Pred:=⟨2,[],0,0,[],[a,⟨4,[],0,0,[],[b]⟩]⟩
theorem apB (a b:Pred):RA (andNot a b)=RA a+RA b+2:=by unfold andNot;simp only[RA,Ws];omega
theorem aw9 {n:Nat}{s:Rm}{a b:Pred}(hCa:Zn n (s,a)=some (TJ s a))(hCb:Zn n (s,b)=some (TJ s b))(hn:3<=n):abj n s a b n (0:Int)=some (if TJ s a=0 then (if TJ s b=0 then .inl () else .inr ([],(false,TJ s b))) else .inr ([],(false,TJ s a))):=by
 have i0:Fb [a,b] (0:Int)=some a:=Td (l:=[a,b]) (i:=0) rfl;have i1:Fb [a,b] (1:Int)=some b:=Td (l:=[a,b]) (i:=1) rfl;have w1:IntKind.wrap .i64 ((0:Int)+(1:Int))=1:=by rw[IntKind.wrap_i64];rfl
 have w2:IntKind.wrap .i64 ((1:Int)+(1:Int))=2:=by rw[IntKind.wrap_i64];rfl
 obtain⟨m,hm⟩:∃m,n=m+3:=⟨n-3,by omega⟩;have go:∀k,abj n s a b (k+3) (0:Int)=some (if TJ s a=0 then (if TJ s b=0 then .inl () else .inr ([],(false,TJ s b))) else .inr ([],(false,TJ s a))):=by
  intro k;rw[akV,show decide ((0:Int)< ((([a.re,b.re].length:Nat)):Int))=true by simp,cond_true,Pred.Sr,Pred.Sr];refine bs i0 ?_;rw[Pred.Sr];refine bs hCa ?_;by_cases ha:TJ s a=0
  .rw[if_pos ha,ha];show abj n s a b (k+2) (IntKind.wrap .i64 ((0:Int)+(1:Int)))=_;rw[w1,akV,show decide ((1:Int)< ((([a.re,b.re].length:Nat)):Int))=true by simp,cond_true,Pred.Sr,Pred.Sr];refine bs i1 ?_;rw[Pred.Sr];refine bs hCb ?_;by_cases hb:TJ s b=0
   .rw[if_pos hb,hb];show abj n s a b (k+1) (IntKind.wrap .i64 ((1:Int)+(1:Int)))=_;rw[w2,akV,show decide ((2:Int)< ((([a.re,b.re].length:Nat)):Int))=false by simp,cond_false]
   .have e0:(TJ s b !=(0:Int))=true:=(by simpa using hb);rw[if_neg hb,e0];rfl
  .have e0:(TJ s a !=(0:Int))=true:=by simpa using ha
   rw[if_neg ha,e0];rfl
 have:=go m;rw[<-hm] at this;exact this
theorem axa {n:Nat}{s:Rm}{a b:Pred}(hS:abZ n s)(hd:s.Defs.length<n)(hn:6000<n)(hp:RA a+RA b+2<n)(hp2:RA a+RA b+2<2^62):∃(L:List Attr) (x:Bool) (e:Int),Zx n (s,(a,b))=some (L,(x,e))/\Xd n (s,(a,b))=some ⟨L,x,e⟩/\L.length<=16:=by
 have hf:=hS.few;have hCa:Zn n (s,a)=some (TJ s a):=alk (n:=n) (s:=s) (p:=a) (by omega) hd (by omega);have hCb:Zn n (s,b)=some (TJ s b):=alk (n:=n) (s:=s) (p:=b) (by omega) hd (by omega);have hRa:Zk n (s,a)=some (TJ s a):=aln (n:=n) (s:=s) (p:=a) (by omega) (by omega) hd (by omega) (by omega);have hRb:Zk n (s,b)=some (TJ s b):=aln (n:=n) (s:=s) (p:=b) (by omega) (by omega) hd (by omega) (by omega);obtain⟨L,x,e,h1,h2,h3⟩:=apA (n:=n) (s:=s) (p:=andNot a b) hS hd hn (by rw[apB];exact hp) (by rw[apB];exact hp2);have hL2:=aw9 (n:=n) (s:=s) (a:=a) (b:=b) hCa hCb (by omega);by_cases ha:TJ s a=0
 .by_cases hb:TJ s b=0
  .refine⟨L,x,e,?_,?_,h3⟩
   .rw[akW];refine bs hL2 ?_;rw[if_pos ha,if_pos hb];show (Xl n b.re).bind _=_;refine bs (avk n b.re) ?_;simp only[Pred.Sr];exact bs h1 rfl
   .rw[akX];refine bs (show Zk n (s,a.re)=some (0:Int) by rw[Pred.Sr,hRa,ha]) ?_;show (bif false then _ else _)=_;rw[cond_false];refine bs (show Zk n (s,b.re)=some (0:Int) by rw[Pred.Sr,hRb,hb]) ?_;show (bif false then _ else _)=_;rw[cond_false];refine bs (avp n b.re) ?_;simp only[Pred.Sr];exact bs h2 rfl
  .have e0:(TJ s b !=(0:Int))=true:=by simpa using hb
   refine⟨[],false,TJ s b,?_,?_,Ql _⟩
   .rw[akW];refine bs hL2 ?_;rw[if_pos ha,if_neg hb];rfl
   .rw[akX];refine bs (show Zk n (s,a.re)=some (0:Int) by rw[Pred.Sr,hRa,ha]) ?_;show (bif false then _ else _)=_;rw[cond_false];refine bs (show Zk n (s,b.re)=some (TJ s b) by rw[Pred.Sr,hRb]) ?_;rw[e0];rfl
 .have e0:(TJ s a !=(0:Int))=true:=by simpa using ha
  refine⟨[],false,TJ s a,?_,?_,Ql _⟩
  .rw[akW];refine bs hL2 ?_;rw[if_neg ha];rfl
  .rw[akX];refine bs (show Zk n (s,a.re)=some (TJ s a) by rw[Pred.Sr,hRa]) ?_;rw[e0];rfl
theorem axb {n:Nat}{L:List Attr}(hb:L.length<2^30):∀(k i m:Nat),i+k=L.length->k<m->aer n L L m (i:Int)=some (.inl ()):=by
 intro k;induction k with
 |zero=>
  intro i m hi hm;obtain⟨m,rfl⟩:∃m',m=m'+1:=⟨m-1,by omega⟩;obtain rfl:i=L.length:=by omega
  rw[aow,Uj,cond_false]
 |succ k ih=>
  intro i m hi hm;obtain⟨m,rfl⟩:∃m',m=m'+1:=⟨m-1,by omega⟩;have hlt:i<L.length:=by omega
  have hx:L[i]? =some L[i]:=PX hlt;rw[aow,TH hx,cond_true];refine bs (Td hx) (bs (Td hx) ?_);rw[TA (by omega),ih (i+1) m (by omega) (by omega)];simp
theorem apC {n:Nat}{L:List Attr}(hb:L.length<=16)(hn:100<n):ZC n (L,L)=some true:=by rw[avq];rw[show ((L.length:Int) !=(L.length:Int))=false from by simp,cond_false];exact bs (axb (n:=n) (by omega) L.length 0 n (by omega) (by omega)) rfl
theorem apD {n:Nat}{p:Pred}(hn:RA p<n)(hp:RA p<2^62)(h:QQ n (p,(100:Int))=some true):RA p<=100:=by
 obtain⟨g,rfl⟩:∃g,n=g+1:=⟨n-1,by omega⟩;have e:QQ (g+1) (p,(100:Int))=abP (g+1) (g+1) (p,(100:Int)):=by unfold QQ;rfl
 rw[e,anU] at h;obtain⟨z,hz,h⟩:=iB (U:=Int) h;have hz:ZX (g+1) p.re=some z:=hz;rw[Pred.Sr,aoJ hn hp] at hz;have hz:=iS hz;by_cases hc:z>100
 .have h:(bif (bif decide ((100:Int)<1) then true else decide (z> (100:Int))) then some false else _)=some true:=h;rw[decide_eq_true hc] at h;cases h
 .rw[Qa,WV] at hz;omega
theorem axc {n:Nat}{s:Rm}{a b:Pred}(hs:ac4 s n)(hx:6*(RA a+RA b+2)<n)(hx2:RA a+RA b+2<2^62)(hn:6000<n):XC n (s,(a,b))=some true:=by
 have apE:Xm n ()=some true:=asZ n ();obtain⟨b1,h1⟩:=awP hs (by omega);obtain⟨b2,h2⟩:=aoL (n:=n) (p:=a) (k:=100) (by omega) (by omega);obtain⟨b3,h3⟩:=aoL (n:=n) (p:=b) (k:=100) (by omega) (by omega);rw[avr];simp only[Pred.Sr];have hsm:∃o,Xv n (s,(a,b))=some o/\(o=true->b1=true):=by
  rw[auE];simp only[Pred.Sr];cases hc:(bif bif !b1 then true else !b2 then true else !b3);case true=>exact⟨false,bs h1 (bs h2 (bs h3 (by rw[hc];rfl))),fun h=>by cases h⟩
  case false=>
   cases b1<;>cases b2<;>cases b3<;>try cases hc
   have hS:=apt hs.2.1 h1;have s2:=apD (by omega) (by omega) h2;have s3:=apD (by omega) (by omega) h3;have hC:=apy (n:=n) (by omega) (p:=⟨2,[],0,0,[],[a,b]⟩) hS (by simp only[RA,Ws];omega);generalize VQ 1 ((UE s (pre ⟨2,[],0,0,[],[a,b]⟩)).map List.length)=cv at hC;refine⟨(bif decide (cv<=(600:Int)) then true else decide (cv> (4096:Int))),bs h1 (bs h2 (bs h3 ?_)),fun _=>rfl⟩;show (bif false then _ else _)=_;rw[cond_false];refine bs (auy n a b) ?_;simp only[Pred.Sr];exact bs hC rfl
 obtain⟨o,ho,hb⟩:=hsm;refine bs ho ?_;cases o with
 |false=>exact bs apE rfl|true=>
  have:=hb rfl;subst this;have hS:=apt hs.2.1 h1;obtain⟨L,x,e,k1,k2,k3⟩:=apA (n:=n) (s:=s) (p:=a) hS hs.1 hn (by omega) (by omega);obtain⟨M,y,f,l1,l2,l3⟩:=axa (n:=n) (s:=s) (a:=a) (b:=b) hS hs.1 hn (by omega) hx2;show (bif false then _ else _)=_;rw[cond_false];refine bs k1 (bs l1 (bs k2 (bs l2 (bs apE ?_))));refine bs (show Ur true (ZC n (L,L)) false=some true from apC k3 (by omega)) ?_;have e1:(bif bif bif true then true else false then x==x else false then e==e else false)=true:=by simp
  refine bs (show Ur (bif bif bif true then true else false then x==x else false then e==e else false) (ZC n (M,M)) false=some true by rw[e1];exact apC l3 (by omega)) ?_;simp
end Sh
end
