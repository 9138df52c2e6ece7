import Derived.IntWalk
import Derived.Test.YtdcnajadcbedkaaGreatDoorF1019
set_option linter.all false
open Go.IntKind (wrap)
section
open Go Go.Proofs aQ
namespace Sh
theorem F3 {U:Type}(l:List U)(i:Nat):aG l (i:Int)=l[i]? :=by
 unfold aG;by_cases h:i<l.length
 .rw[if_pos ⟨RS,RS⟩];simp
 .rw[if_neg RS];simp;omega
theorem eG {U:Type}{l:List U}{i:Nat}{x:U}(h:l[i]? =some x):aG l (i:Int)=some x:=by rw[F3,h]
theorem pI {U:Type}{l:List U}{i:Nat}{x:U}(h:l[i]? =some x):i<l.length:=by rw[uX] at h;exact h.1
theorem iU {U:Type}{l:List U}{i:Nat}{x:U}(h:l[i]? =some x):decide ((i:Int)< (l.length:Int))=true:=by have:=pI h;simp;omega
theorem zU {U:Type}(l:List U):decide ((l.length:Int)< (l.length:Int))=false:=aD
theorem fU {i:Nat}(h:i<2^62):wrap .i64 ((i:Int)+(1:Int))=((i+1:Nat):Int):=Ai
def foldI {U β Y:Type}(step:U->Nat->Y->(Y->β)->β)(fin:Y->β):Nat->List U->Y->β
 |_,[],s=>fin s|i,x::l,s=>step x i s fun s=>foldI step fin (i+1) l s
theorem ayd {U β Y:Type}{L:Nat->Y->Int->Option β}{l:List U}(step:U->Nat->Y->(Y->Option β)->Option β)(fin:Y->Option β)(hs:∀m (i:Nat) x s,l[i]? =some x->L (m+1) s (i:Int)=step x i s fun s=>L m s ((i+1:Nat):Int))(hf:∀m s,L (m+1) s (l.length:Int)=fin s)(hc:∀x (i:Nat) s k k',(∀s,k s=k' s)->step x i s k=step x i s k'):∀(k i m:Nat)(s:Y),i+k=l.length->k<m->L m s (i:Int)=foldI step fin i (l.drop i) s:=by
 intro k;induction k with
 |zero=>
  intro i m s hi hm;obtain⟨m,rfl⟩:∃m',m=m'+1:=⟨m-1,RS⟩;obtain rfl:i=l.length:=RS
  rw[hf,List.drop_length];rfl
 |succ k ih=>
  intro i m s hi hm;obtain⟨m,rfl⟩:∃m',m=m'+1:=⟨m-1,RS⟩;have hlt:i<l.length:=RS
  have hx:l[i]? =some l[i]:=fI hlt;rw[hs m i l[i] s hx,om hlt];exact hc _ _ _ _ _ fun s=>ih (i+1) m s RS RS
theorem J5 {U β:Type}{L:Nat->Int->Option β}{l:List U}(step:U->Nat->Option β->Option β)(fin:Option β)(hs:∀m (i:Nat) x,l[i]? =some x->L (m+1) (i:Int)=step x i (L m ((i+1:Nat):Int)))(hf:∀m,L (m+1) (l.length:Int)=fin){m:Nat}(hm:l.length<m):
 L m (0:Int)=foldI (Y:=Unit) (fun x i _ k=>step x i (k ())) (fun _=>fin) 0 l ():=by
 have:=ayd (L:=fun m (_:Unit) i=>L m i) (l:=l) (fun x i _ k=>step x i (k ())) (fun _=>fin) (fun m i x _ h=>hs m i x h) (fun m _=>hf m) (fun x i s k k' h=>by rw[h]) l.length 0 m () RS hm;simpa using this
theorem F4 {U:Type}{γ:Type}(p:U->Bool)(f:Nat->γ)(z:γ):∀(l:List U)(i:Nat),foldI (Y:=Unit) (fun x i _ (k:Unit->Option γ)=>bif p x then some (f i) else k ()) (fun _=>some z) i l ()=some (match l.findIdx? p with|some j=>f (i+j)|none=>z)
 | [],i=>rfl|x::l,i=>by
  show (bif p x then some (f i) else foldI _ _ (i+1) l ())=_;rw[List.findIdx?_cons];cases hp:p x
  .rw[cond_false,F4 p f z l (i+1)];simp only[dG,if_false];cases l.findIdx? p with
   |none=>rfl|some j=>simp only[Option.map_some];rw[Nat.add_right_comm,oZ]
  .simp
theorem Bt {U β Y:Type}{L:Nat->Y->Int->Option β}{l:List U}(hs:∀m (i:Nat) x s,l[i]? =some x->(∀s,∃r,L m s ((i+1:Nat):Int)=some r)->∃r,L (m+1) s (i:Int)=some r)(hf:∀m s (i:Nat),l.length<=i->∃r,L (m+1) s (i:Int)=some r):
 ∀(k i m:Nat)(s:Y),l.length<=i+k->k<m->∃r,L m s (i:Int)=some r:=by
 intro k;induction k with
 |zero=>intro i m s hi hm;obtain⟨m,rfl⟩:∃m',m=m'+1:=⟨m-1,RS⟩;exact hf m s i RS
 |succ k ih=>
  intro i m s hi hm;obtain⟨m,rfl⟩:∃m',m=m'+1:=⟨m-1,RS⟩;by_cases h:l.length<=i
  .exact hf m s i h
  .exact hs m i _ s (fI RS) fun s=>ih (i+1) m s RS RS
theorem nW {U:Type}{l:List U}{i:Nat}(h:l.length<=i):decide ((i:Int)< (l.length:Int))=false:=dw
theorem bs {U β:Type}{o:Option U}{a:U}{f:U->Option β}{r:Option β}(h:o=some a)(k:f a=r):o.bind f=r:=Ef
theorem uR {a k:Nat}(h:a<2^30)(hk:k<=2^12):bZ a k=true:=by
 unfold bZ;have h1:a*k<=2^30*2^12:=Nat.mul_le_mul (Nat.le_of_lt h) hk;have e:(2:Nat)^30*2^12<=2^47:=aK
 rw[aZ,decide_eq_true_iff,decide_eq_true_iff];exact⟨RS,RS⟩
theorem Ug {U:Type}{l:List U}{i:Nat}(h:i<l.length):decide (0<=(i:Int)/\(i:Int)< (l.length:Int))=true:=decide_eq_true ⟨RS,RS⟩
theorem Uh {U:Type}{c:Bool}{x d:U}:nU c (some x) d=some (bif c then x else d):=by cases c<;>rfl
theorem Ui {i:Nat}(h:0<i)(hb:i<2^62):wrap .i64 ((i:Int)-(1:Int))=((i-1:Nat):Int):=Ai
theorem Dt {U:Type}{l:List U}{i:Nat}(h:i<l.length):∃x,aG l (i:Int)=some x/\x∈l:=⟨l[i],by rw[F3,fI h],lM h⟩
theorem Uj {a b:Nat}(h:a+b<2^62):wrap .i64 ((((a:Nat):Int))+(((b:Nat):Int)))=((a+b:Nat):Int):=Ai
theorem Uk {U:Type}{a k:Nat}{o:Option U}(h:a<2^30)(hk:k<=2^12:=by omega):(bif bZ a k then o else none)=o:=by rw[uR h hk];rfl
theorem alF {τ β:Type}{L:Nat->τ->Option β}(Inv:τ->Prop)(mu:τ->Nat)(Post:β->Prop)(h:∀m p,Inv p->(∀p',Inv p'->mu p'<mu p->∃r,L m p'=some r/\Post r)->∃r,L (m+1) p=some r/\Post r):∀m p,Inv p->mu p<m->∃r,L m p=some r/\Post r
 |0,p,_,hm=>RS|m+1,p,hp,hm=>h m p hp fun p' hp' hlt=>alF Inv mu Post h m p' hp' RS
theorem kF {U:Type}{P:U->Prop}{c:Bool}{a b:Option U}(ha:c=true->∃r,a=some r/\P r)(hb:c=false->∃r,b=some r/\P r):∃r,(bif c then a else b)=some r/\P r:=by
 cases c
 .exact hb rfl
 .exact ha rfl
theorem fO {U β:Type}{P:β->Prop}{o:Option U}{f:U->Option β}(h:∃x,o=some x/\∃r,f x=some r/\P r):∃r,o.bind f=some r/\P r:=by obtain⟨x,hx,h⟩:=h;rw[hx];exact h
theorem kP {U:Type}{P:U->Prop}{a:U}(h:P a):∃r,some a=some r/\P r:=⟨a,rfl,h⟩
theorem aye {U:Type}{l:List U}{i:Int}(h1:0<=i)(h2:decide (i< (l.length:Int))=true):∃x,aG l i=some x:=by obtain⟨j,rfl⟩:=Int.eq_ofNat_of_zero_le h1;rw[F3];exact⟨l[j]' Lh,fI _⟩
theorem ayf {x:Int}(h:0<=x):wrap .u64 (Int.tdiv x 128)=wrap .u64 (x/128):=by rw[Int.tdiv_eq_ediv_of_nonneg h]
theorem iV {U:Type}{c:Bool}{a b r:Option U}(h:c=true)(k:a=r):(bif c then a else b)=r:=Ef
theorem kQ {U:Type}{c:Bool}{a b r:Option U}(h:c=false)(k:b=r):(bif c then a else b)=r:=Ef
theorem oP {i:Int}{n:Nat}(h:0<=i/\i<n):dH i n=true:=decide_eq_true h
theorem zV {i:Int}{n:Nat}(h:0<=i/\i<=n):jl i n=true:=decide_eq_true h
def rotl (x k:Int):Int:=mJ .u32 (jg .u32 x (iJ .u64 (wrap .u64 k) 31)) (gu .u32 x (wrap .u64 (32-iJ .u64 (wrap .u64 k) 31)))
theorem alG (x:Int):0<=wrap .u64 x:=by rw[IntKind.wrap_u64];exact Int.emod_nonneg _ aK
theorem F5 (n:Nat)(x k:Int):yN n (x,k)=some (rotl x k):=by rw[axR,decide_eq_true (show (0:Int)<=iJ .u64 (wrap .u64 k) 31 from alG _),decide_eq_true (alG _)];rfl
def Du (x a b c:Int):Int:=dS .u32 (dS .u32 (rotl x (wrap .i64 (0-a))) (rotl x (wrap .i64 (0-b)))) (rotl x (wrap .i64 (0-c)))
theorem alH (n:Nat)(x a b c:Int):JA n (x,(a,(b,c)))=some (Du x a b c):=by rw[axT,F5,F5,F5];rfl
theorem wh {i:Int}(h0:0<=i)(h:i<2^62):wrap .i64 (i+(1:Int))=i+1:=Ai
theorem gX {i:Int}(h0: -(2^62)<=i)(h:i<2^62):wrap .i64 i=i:=Ai
theorem J6 {a k:Nat}(h:a<2^30)(hk:k<=2^12):bZ a k=true:=uR h hk
theorem ayg {x:Int}(h0:0<=x):0<=gu .u64 x 7/\gu .u64 x 7=x/128:=by have e:gu .u64 x 7=x.fdiv (2^7):=rfl;rw[e,Int.fdiv_eq_ediv_of_nonneg x aK];exact⟨Int.ediv_nonneg h0 aK,rfl⟩
theorem ayh (k:IntKind)(a b:Int):mJ k a b=mJ k b a:=by unfold mJ;rw[BitVec.or_comm]
theorem ayi (k:IntKind)(a b:Int):dS k a b=dS k b a:=by unfold dS;rw[BitVec.xor_comm]
theorem zW (n:Nat)(x k:Int)(h0:0<=k)(h1:k<=32):uQ n (x,k)=some (lg x k):=by rw[ax6,decide_eq_true h0,cond_true,decide_eq_true (by rw[gX RS RS];omega:(0:Int)<=wrap .i64 (32-k))];rfl
theorem zX {x k j i:Int}(h1:iJ .u64 (wrap .u64 k) 31=i)(h2:wrap .u64 (32-i)=j)(h3:wrap .i64 (32-j)=i):rotl x k=lg x j:=by unfold rotl lg;rw[h1,h2,h3,ayh]
theorem alI (x:Int){a b c:Int}(ha:rotl x (wrap .i64 (0-a))=lg x a)(hb:rotl x (wrap .i64 (0-b))=lg x b)(hc:rotl x (wrap .i64 (0-c))=lg x c):
 Du x a b c=dS .u32 (dS .u32 (lg x a) (lg x b)) (lg x c):=by
 unfold Du;rw[ha,hb,hc]
theorem ayj (x:Int):Du x 6 11 25=dS .u32 (dS .u32 (lg x 6) (lg x 11)) (lg x 25):=
 alI x (zX (i:=26) aK aK aK) (zX (i:=21) aK aK aK) (zX (i:=7) aK aK aK)
theorem ayk (x:Int):Du x 2 13 22=dS .u32 (dS .u32 (lg x 2) (lg x 13)) (lg x 22):=
 alI x (zX (i:=30) aK aK aK) (zX (i:=19) aK aK aK) (zX (i:=10) aK aK aK)
theorem ayl (x:Int):rotl x (-7)=lg x 7:=zX (i:=25) aK aK aK
theorem aym (x:Int):rotl x (-18)=lg x 18:=zX (i:=14) aK aK aK
theorem ayn (x:Int):rotl x (-17)=lg x 17:=zX (i:=15) aK aK aK
theorem ayo (x:Int):rotl x (-19)=lg x 19:=zX (i:=13) aK aK aK
theorem Ul {a b:Int}(k:Nat)(ha0:0<=a)(ha:a% 2^k=0)(ha1:a<2^32)(hb0:0<=b)(hb1:b<2^k)(hk:k<=32):mJ .u32 a b=a+b:=by
 obtain⟨c,rfl⟩:∃c:Nat,a=((c*2^k:Nat):Int):=by
  refine⟨(a/2^k).toNat,?_⟩;have h1:=Int.mul_ediv_add_emod a (2^k);rw[ha,Int.add_zero] at h1;have h2:0<=a/2^k:=Int.ediv_nonneg ha0 (Int.pow_nonneg aK);rw[Int.natCast_mul,GI h2,Int.mul_comm]
  push_cast
  exact h1.symm
 obtain⟨d,rfl⟩:∃d:Nat,b=(d:Int):=⟨b.toNat,(GI hb0).symm⟩;have hd:d<2^k:=by exact_mod_cast hb1
 have hkk:2^k<=2^32:=Nat.pow_le_pow_right aK hk;have hc:c*2^k<2^32:=by exact_mod_cast ha1
 have hsum:c*2^k|||d=c*2^k+d:=by rw[<-Nat.shiftLeft_eq,Nat.shiftLeft_add_eq_or_of_lt hd]
 have hlt:c*2^k|||d<2^32:=Nat.or_lt_two_pow hc RS
 unfold mJ;have e1:(BitVec.ofInt IntKind.u32.bits ((c*2^k:Nat):Int)|||BitVec.ofInt IntKind.u32.bits ((d:Nat):Int)).toNat=c*2^k+d:=by
  rw[BitVec.toNat_or];simp only[BitVec.ofInt_natCast,BitVec.toNat_ofNat];show (c*2^k)% 2^32|||d% 2^32=_
  rw[El hc,El RS,hsum]
 rw[e1,IntKind.wrap_u32];have:c*2^k+d<2^32:=RS
 omega
theorem ayp {n:Nat}{v w:Vec n}(h:v.l=w.l):v=w:=by cases v;cases w;cases h;rfl
theorem at_set {n:Nat}(v:Vec n){i:Int}(y:Int)(h0:0<=i)(h1:i<n):(v.set i y).at' i=y:=by show (v.l.set i.toNat y).getD i.toNat 0=y;rw[nE,List.getElem?_set_self (by rw[v.h];omega)];rfl
theorem ayq {n:Nat}(v:Vec n){i j:Int}(y:Int)(h0:0<=i)(h1:0<=j)(h:i≠j):(v.set i y).at' j=v.at' j:=by show (v.l.set i.toNat y).getD j.toNat 0=v.l.getD j.toNat 0;rw[nE,List.getElem?_set_ne RS,nE]
theorem aaL {n:Nat}(v:Vec n)(i a b:Int):(v.set i a).set i b=v.set i b:=ayp (List.set_set ..)
def lH (l:List Int):Prop:=∀x∈l,0<=x/\x<256
theorem Um {l:List Int}(h:lH l)(i:Nat):0<=l.getD i 0/\l.getD i 0<256:=by
 rw[nE];cases hi:l[i]? with
 |none=>exact⟨lN _,aK⟩|some x=>exact h x (tX hi)
theorem wrap32 {x:Int}(h0:0<=x)(h1:x<2^32):wrap .u32 x=x:=by rw[IntKind.wrap_u32];omega
theorem Un {x:Int}(k:Nat)(h0:0<=x)(h1:x*2^k<2^32)(hk:k<=32):jg .u32 x (k:Nat)=x*2^k:=by
 unfold jg;have:min (((k:Nat):Int)).toNat IntKind.u32.bits=k:=by show min (((k:Nat):Int)).toNat 32=k;rw[Int.toNat_natCast];omega
 rw[this,wrap32 (Int.mul_nonneg h0 (Int.pow_nonneg aK)) h1]
theorem ayr {a b c d:Int}(ha:0<=a/\a<256)(hb:0<=b/\b<256)(hc:0<=c/\c<256)(hd:0<=d/\d<256):Y5 a b c d=a*2^24+b*2^16+c*2^8+d:=by unfold Y5;rw[wrap32 RS RS,wrap32 RS RS,wrap32 RS RS,wrap32 RS RS];rw[show jg .u32 a 24=a*2^24 from Un 24 RS RS aK,show jg .u32 b 16=b*2^16 from Un 16 RS RS aK,show jg .u32 c 8=c*2^8 from Un 8 RS RS aK];have h1:mJ .u32 (a*2^24) (b*2^16)=a*2^24+b*2^16:=Ul 24 RS RS RS RS RS aK;have h2:mJ .u32 (a*2^24+b*2^16) (c*2^8)=a*2^24+b*2^16+c*2^8:=Ul 16 RS RS RS RS RS aK;have h3:mJ .u32 (a*2^24+b*2^16+c*2^8) d=a*2^24+b*2^16+c*2^8+d:=Ul 8 RS RS RS RS RS aK;rw[h1,h2,h3]
theorem Uo {x d:Int}(h0:0<=x)(h1:x<2^24)(hd:0<=d/\d<256):mJ .u32 (jg .u32 x 8) (wrap .u32 d)=x*256+d:=by rw[wrap32 RS RS,show jg .u32 x 8=x*2^8 from Un 8 RS RS aK,Ul 8 RS RS RS RS RS aK];omega
theorem ays {n m:Nat}{x1:List Int}{i:Int}(h:x1.length=64)(h0:0<=i)(h1:i<16)(hb:lH x1)(v:Vec 64)(hv:v.at' i=0):FY n x1 i (m+5) (0,v)=some ((),v.set i (Y6 x1 i)):=by
 have hl:List.drop (Int.toNat (wrap .i64 (4*i))) (List.take (Int.toNat (wrap .i64 (wrap .i64 (4*i)+4))) x1)=[x1.getD (4*i.toNat) 0,x1.getD (4*i.toNat+1) 0,x1.getD (4*i.toNat+2) 0,x1.getD (4*i.toNat+3) 0]:=by
  rw[gX (i:=4*i) RS RS,gX RS RS];apply List.ext_getElem?;intro j;rw[List.getElem?_drop];by_cases hj:j<4
  .rw[List.getElem?_take_of_lt RS];have e:(4*i).toNat+j=4*i.toNat+j:=RS
   rw[e];have hg:∀k,k<64->x1[k]? =some (x1.getD k 0):=fun k hk=>by rw[nE,fI RS];rfl
   rw[hg _ RS];rcases j with _|_|_|_|j;all_goals first| (exact absurd hj RS)|rfl
  .rw[List.getElem?_eq_none og,List.getElem?_eq_none dw]
 have ba:=Um hb (4*i.toNat);have bb:=Um hb (4*i.toNat+1);have bc:=Um hb (4*i.toNat+2);have bd:=Um hb (4*i.toNat+3);unfold Y6;generalize x1.getD (4*i.toNat) 0=a at hl ba⊢;generalize x1.getD (4*i.toNat+1) 0=b at hl bb⊢;generalize x1.getD (4*i.toNat+2) 0=c at hl bc⊢;generalize x1.getD (4*i.toNat+3) 0=d at hl bd⊢;have hin:dH i 64=true:=oP ⟨h0,RS⟩;have st:∀(m:Nat)(x4:Int)(x5:Vec 64)(y:Int),aG [a,b,c,d] x4=some y->0<=x4->x4<4->FY n x1 i (m+1) (x4,x5)=FY n x1 i m (x4+1,x5.set i (mJ .u32 (jg .u32 (x5.at' i) 8) (wrap .u32 y))):=by intro m x4 x5 y hy k0 k1;rw[alh,hl,decide_eq_true (show x4< (([a,b,c,d]:List Int).length:Nat) by simp;omega),hy,hin,wh k0 RS];rfl
 rw[st (m+4) 0 v a rfl aK aK,st (m+3) (0+1) _ b rfl aK aK,st (m+2) (0+1+1) _ c rfl aK aK,st (m+1) (0+1+1+1) _ d rfl aK aK];rw[alh,hl];rw[hv,at_set _ _ h0 (by show i<64;omega),at_set _ _ h0 (by show i<64;omega),at_set _ _ h0 (by show i<64;omega),aaL,aaL,aaL];have e1:=Uo (x:=0) (d:=a) aK aK ba;rw[e1,Uo RS RS bb,Uo RS RS bc,Uo RS RS bd,ayr ba bb bc bd];have e2:(((0*256+a)*256+b)*256+c)*256+d=a*2^24+b*2^16+c*2^8+d:=RS
 rw[e2];rfl
theorem hS2 {n:Nat}{x:List Int}:∀(k:Nat)(i:Int)(w:Vec 64)(m:Nat),i+k=64->16<=i->k<m->FZ n x m (i,w)=some ((),oD TD k i w):=by
 intro k;induction k with
 |zero=>intro i w m hi h16 hm;obtain⟨m,rfl⟩:∃q,m=q+1:=⟨m-1,RS⟩;rw[aaI,decide_eq_false RS];rfl
 |succ k ih=>intro i w m hi h16 hm;obtain⟨m,rfl⟩:∃q,m=q+1:=⟨m-1,RS⟩;rw[aaI,decide_eq_true (show i<64 by omega),decide_eq_false (show¬i<16 by omega),cond_true,cond_false];rw[gX (i:=i-15) RS RS,gX (i:=i-2) RS RS,gX (i:=i-16) RS RS,gX (i:=i-7) RS RS,wh RS RS];rw[oP (i:=i-15) ⟨RS,RS⟩,oP (i:=i-2) ⟨RS,RS⟩,oP (i:=i-16) ⟨RS,RS⟩,oP (i:=i-7) ⟨RS,RS⟩,oP (i:=i) ⟨RS,RS⟩];rw[F5,F5,F5,F5,ayl,aym,ayn,ayo];exact ih (i+1) _ m RS RS RS
theorem hS1 {n:Nat}{x:List Int}(hx:x.length=64)(hb:lH x)(hn:60<n):∀(k:Nat)(i:Int)(w:Vec 64)(m:Nat),i+k=16->0<=i->(∀j,i<=j->w.at' j=0)->k+48<m->FZ n x m (i,w)=some ((),oD TD 48 16 (oD (TF x) k i w)):=by
 intro k;induction k with
 |zero=>
  intro i w m hi h0 hw hm;obtain rfl:i=16:=RS
  exact hS2 48 16 w m aK aK RS
 |succ k ih=>intro i w m hi h0 hw hm;obtain⟨m,rfl⟩:∃q,m=q+1:=⟨m-1,RS⟩;rw[aaI,decide_eq_true (show i<64 by omega),decide_eq_true (show i<16 by omega),cond_true,cond_true];rw[gX (i:=4*i) RS RS,gX (i:=4*i+4) RS RS,wh RS RS];rw[zV (i:=4*i+4) ⟨RS,RS⟩,zV (i:=4*i) ⟨RS,RS⟩,Bool.and_self,cond_true];obtain⟨q,rfl⟩:∃q,n=q+5:=⟨n-5,RS⟩;rw[ays hx h0 RS hb w (hw i (lN _))];exact ih (i+1) _ m RS RS (fun j hj=>by rw[ayq _ _ h0 RS RS];exact hw j RS) RS
theorem ayt {n:Nat}{x:List Int}(hx:x.length=64)(hb:lH x)(hn:70<n):Nz n x=some (FL x):=by rw[axS];have h:=hS1 (n:=n) hx hb RS 16 0 (Vec.rep 64 0) n aK aK (fun j _=>by show (List.replicate 64 (0:Int)).getD j.toNat 0=0;rw[nE,List.getElem?_replicate];split<;>rfl) RS;rw[h];rfl
theorem ayu {n:Nat}{x:List Int}(hx:x.length=64):∀(k:Nat)(i:Int)(w:Vec 64)(m:Nat),i+k=16->0<=i->k<m->N7 n x m (i,w)=some ((),oD (TF x) k i w):=by
 intro k;induction k with
 |zero=>intro i w m hi h0 hm;obtain⟨m,rfl⟩:∃q,m=q+1:=⟨m-1,RS⟩;rw[alx,decide_eq_false RS];rfl
 |succ k ih=>
  intro i w m hi h0 hm;obtain⟨m,rfl⟩:∃q,m=q+1:=⟨m-1,RS⟩;have hg:∀k:Nat,k<64->aG x ((k:Nat):Int)=some (x.getD k 0):=fun k hk=>by unfold aG;rw[if_pos ⟨RS,RS⟩,Int.toNat_natCast,nE,fI RS];rfl
  rw[alx,decide_eq_true (show i<16 by omega),cond_true];rw[gX (i:=4*i) RS RS,gX (i:=4*i+1) RS RS,gX (i:=4*i+2) RS RS,gX (i:=4*i+3) RS RS,wh RS RS];rw[show (4*i:Int)=((4*i.toNat:Nat):Int) by omega,hg _ RS,show ((4*i.toNat:Nat):Int)+1=((4*i.toNat+1:Nat):Int) by omega,hg _ RS,show ((4*i.toNat:Nat):Int)+2=((4*i.toNat+2:Nat):Int) by omega,hg _ RS,show ((4*i.toNat:Nat):Int)+3=((4*i.toNat+3:Nat):Int) by omega,hg _ RS];rw[oP (i:=i) ⟨RS,RS⟩];exact ih (i+1) _ m RS RS RS
theorem ayv {n:Nat}:∀(k:Nat)(i:Int)(w:Vec 64)(m:Nat),i+k=64->16<=i->k<m->JY n m (i,w)=some ((),oD TD k i w):=by
 intro k;induction k with
 |zero=>intro i w m hi h16 hm;obtain⟨m,rfl⟩:∃q,m=q+1:=⟨m-1,RS⟩;rw[aly,decide_eq_false RS];rfl
 |succ k ih=>intro i w m hi h16 hm;obtain⟨m,rfl⟩:∃q,m=q+1:=⟨m-1,RS⟩;rw[aly,decide_eq_true (show i<64 by omega),cond_true];rw[gX (i:=i-15) RS RS,gX (i:=i-2) RS RS,gX (i:=i-16) RS RS,gX (i:=i-7) RS RS,wh RS RS];rw[oP (i:=i-15) ⟨RS,RS⟩,oP (i:=i-2) ⟨RS,RS⟩,oP (i:=i-16) ⟨RS,RS⟩,oP (i:=i-7) ⟨RS,RS⟩,oP (i:=i) ⟨RS,RS⟩];rw[zW _ _ _ aK aK,zW _ _ _ aK aK,zW _ _ _ aK aK,zW _ _ _ aK aK];exact ih (i+1) _ m RS RS RS
theorem ayw {n:Nat}{x:List Int}(hx:x.length=64)(hn:70<n):NM n x=some (FL x):=by rw[ax7,ayu hx 16 0 (Vec.rep 64 0) n aK aK RS];show (JY n n (16,oD (TF x) 16 0 (Vec.rep 64 0))).bind _=_;rw[ayv 48 16 _ n aK aK RS];rfl
def alJ (v e:Vec 4)(s:Vec 8)(i:Int):Vec 8:=(s.set i (wrap .u32 (s.at' i+v.at' i))).set (i+4) (wrap .u32 ((s.set i (wrap .u32 (s.at' i+v.at' i))).at' (i+4)+e.at' i))
def cat (v e:Vec 4):Vec 8:=Vec.lit 8 (v.l++e.l)
theorem Uq (v:Vec 4):∃a b c d,v=Vec.lit 4 [a,b,c,d]:=by
 obtain⟨l,h⟩:=v
 match l,h with
 | [a,b,c,d],_=>exact⟨a,b,c,d,rfl⟩
theorem alK (v:Vec 8):∃a b c d e f g h,v=Vec.lit 8 [a,b,c,d,e,f,g,h]:=by
 obtain⟨l,hl⟩:=v
 match l,hl with
 | [a,b,c,d,e,f,g,h],_=>exact⟨a,b,c,d,e,f,g,h,rfl⟩
theorem add_eq (v e:Vec 4)(s:Vec 8):oD (alJ v e) 4 0 s=oD (Y7 (cat v e)) 8 0 s:=by obtain⟨a,b,c,d,rfl⟩:=Uq v;obtain⟨a',b',c',d',rfl⟩:=Uq e;obtain⟨s0,s1,s2,s3,s4,s5,s6,s7,rfl⟩:=alK s;kernel_rfl
theorem ayx (s:Vec 8):cat (s.slc 0 4) (s.slc 4 4)=s:=by obtain⟨s0,s1,s2,s3,s4,s5,s6,s7,rfl⟩:=alK s;kernel_rfl
theorem ayy {n:Nat}{r2:List Int}{x3:Int}{x4:Vec 8}{w:Vec 64}:∀(k:Nat)(i:Int)(s:Vec 8)(m:Nat),i+k=64->0<=i->k<m->JZ n r2 x3 x4 w m (i,s)=some ((),oD (Nr w) k i s):=by
 intro k;induction k with
 |zero=>intro i s m hi h0 hm;obtain⟨m,rfl⟩:∃q,m=q+1:=⟨m-1,RS⟩;rw[alz,decide_eq_false RS];rfl
 |succ k ih=>intro i s m hi h0 hm;obtain⟨m,rfl⟩:∃q,m=q+1:=⟨m-1,RS⟩;rw[alz,decide_eq_true (show i<64 by omega),cond_true,oP (i:=i) (n:=64) ⟨RS,RS⟩,wh RS RS];rw[zW _ _ _ aK aK,zW _ _ _ aK aK,zW _ _ _ aK aK,zW _ _ _ aK aK,zW _ _ _ aK aK,zW _ _ _ aK aK];exact ih (i+1) _ m RS RS RS
theorem ayz (w:Vec 64)(v e:Vec 4)(i:Int):cat (Vec.lit 4 [wrap .u32 (wrap .u32 (wrap .u32 (wrap .u32 (wrap .u32 (e.at' 3+Du (e.at' 0) 6 11 25)+dS .u32 (iJ .u32 (e.at' 0) (e.at' 1)) (iJ .u32 (dS .u32 4294967295 (e.at' 0)) (e.at' 2)))+xu.at' i)+w.at' i)+wrap .u32 (Du (v.at' 0) 2 13 22+dS .u32 (dS .u32 (iJ .u32 (v.at' 0) (v.at' 1)) (iJ .u32 (v.at' 0) (v.at' 2))) (iJ .u32 (v.at' 1) (v.at' 2)))),v.at' 0,v.at' 1,v.at' 2]) (Vec.lit 4 [wrap .u32 (v.at' 3+wrap .u32 (wrap .u32 (wrap .u32 (wrap .u32 (e.at' 3+Du (e.at' 0) 6 11 25)+dS .u32 (iJ .u32 (e.at' 0) (e.at' 1)) (iJ .u32 (dS .u32 4294967295 (e.at' 0)) (e.at' 2)))+xu.at' i)+w.at' i)),e.at' 0,e.at' 1,e.at' 2])=Nr w (cat v e) i:=by
 obtain⟨a,b,c,d,rfl⟩:=Uq v;obtain⟨a',b',c',d',rfl⟩:=Uq e;rw[ayj,ayk,ayi IntKind.u32 4294967295];rfl
theorem hR {n:Nat}{x1:Vec 8}{w:Vec 64}:∀(k:Nat)(i:Int)(v e:Vec 4)(m:Nat),i+k=64->0<=i->k<m->∃v' e',JN n x1 w m (i,(v,e))=some ((),(v',e'))/\cat v' e'=oD (Nr w) k i (cat v e):=by
 intro k;induction k with
 |zero=>intro i v e m hi h0 hm;obtain⟨m,rfl⟩:∃q,m=q+1:=⟨m-1,RS⟩;refine⟨v,e,?_,rfl⟩;rw[ali,decide_eq_false RS];rfl
 |succ k ih=>intro i v e m hi h0 hm;obtain⟨m,rfl⟩:∃q,m=q+1:=⟨m-1,RS⟩;obtain⟨v',e',h1,h2⟩:=ih (i+1) _ _ m RS RS RS;rw[ayz] at h2;refine⟨v',e',?_,h2⟩;rw[ali,decide_eq_true (show i<64 by omega),cond_true,oP (i:=i) (n:=64) ⟨RS,RS⟩,wh RS RS,alH,alH];exact h1
theorem ayA {n:Nat}{r2:List Int}{x3:Int}{v:Vec 8}:∀(k:Nat)(i:Int)(s:Vec 8)(m:Nat),i+k=8->0<=i->k<m->J2 n r2 x3 ((),v) m (i,s)=some ((),oD (Y7 v) k i s):=by
 intro k;induction k with
 |zero=>intro i s m hi h0 hm;obtain⟨m,rfl⟩:∃q,m=q+1:=⟨m-1,RS⟩;rw[alA,decide_eq_false RS];rfl
 |succ k ih=>intro i s m hi h0 hm;obtain⟨m,rfl⟩:∃q,m=q+1:=⟨m-1,RS⟩;rw[alA,decide_eq_true (show i<8 by omega),cond_true,oP (i:=i) (n:=8) ⟨RS,RS⟩,wh RS RS];exact ih (i+1) _ m RS RS RS
theorem hA {n:Nat}{v e:Vec 4}:∀(k:Nat)(i:Int)(s:Vec 8)(m:Nat),i+k=4->0<=i->k<m->JO n ((),(v,e)) m (i,s)=some ((),oD (alJ v e) k i s):=by
 intro k;induction k with
 |zero=>intro i s m hi h0 hm;obtain⟨m,rfl⟩:∃q,m=q+1:=⟨m-1,RS⟩;rw[alj,decide_eq_false RS];rfl
 |succ k ih=>intro i s m hi h0 hm;obtain⟨m,rfl⟩:∃q,m=q+1:=⟨m-1,RS⟩;rw[alj,decide_eq_true (show i<4 by omega),cond_true,oP (i:=i) (n:=8) ⟨RS,RS⟩,oP (i:=i) (n:=4) ⟨RS,RS⟩,wh RS RS,gX (i:=i+4) RS RS,oP (i:=i+4) (n:=8) ⟨RS,RS⟩];exact ih (i+1) _ m RS RS RS
theorem hcomp {n:Nat}{h:Vec 8}{x:List Int}(hx:x.length=64)(hb:lH x)(hn:70<n):NC n (h,x)=some (zP h x):=by rw[axU,ayt hx hb hn];obtain⟨v',e',h1,h2⟩:=hR (n:=n) (x1:=h) (w:=FL x) 64 0 (h.slc 0 4) (h.slc 4 4) n aK aK RS;show ((JN n h (FL x) n (0,(h.slc 0 4,h.slc 4 4))).bind _)=_;rw[h1];show ((JO n ((),(v',e')) n (0,h)).bind _)=_;rw[hA 4 0 h n aK aK RS,add_eq,h2,ayx];rfl
theorem ayB:∀(q:Nat)(h:Vec 8)(d b:List Int),d.length=64*q->b.length=64->Bg (q+1) h (d++b)=zP (Bg q h d) b:=by
 intro q;induction q with
 |zero=>intro h d b hd hb;obtain rfl:d=[]:=qo RS;show zP h (b.take 64)=zP h b;rw[rJ RS]
 |succ q ih=>intro h d b hd hb;show Bg (q+1) (zP h ((d++b).take 64)) ((d++b).drop 64)=zP (Bg q (zP h (d.take 64)) (d.drop 64)) b;rw[Et RS,Ls RS];exact ih _ _ _ nO hb
def l5 (l:List Int):List UInt8:=l.map fun n=>UInt8.ofNat n.toNat
theorem alL (l:List UInt8):lH (qH l):=by intro x hx;obtain⟨b,_,rfl⟩:=Eo.1 hx;have:=UInt8.toNat_lt b;omega
theorem aaM {l:List Int}(h:lH l):qH (l5 l)=l:=by
 unfold qH l5;rw[Ap]
 conv=>rhs;rw[<-List.map_id l]
 apply En;intro x hx;obtain⟨h0,h1⟩:=h x hx;show ((UInt8.ofNat x.toNat).toNat:Int)=x;rw[UInt8.toNat_ofNat_of_lt' (show x.toNat<256 by omega)];omega
theorem alM (l:List UInt8):(qH l).length=l.length:=fH ..
theorem Dv (l:List Int):(l5 l).length=l.length:=fH ..
theorem Bu {l m:List Int}(h:lH l)(g:lH m):lH (l++m):=fun x hx=>(rH.1 hx).elim (h x) (g x)
theorem ayC {l m:List Int}(h:lH (l++m)):lH m:=fun x hx=>h x (BX _ hx)
def zY (bs:List Int)(h:Vec 8)(v:Vec 64)(c:Int):Prop:=
 ∃q done tail,bs=done++tail/\done.length=64*q/\tail.length<64/\h=Bg q Dh done/\v.l.take tail.length=tail/\c=(bs.length:Int)/\lH bs
theorem M8 {n:Nat}{l:List Int}(h:l.length=n):(Vec.lit n l).l=l:=by unfold Vec.lit;rw[dif_pos h]
theorem Ur {x:Int}(h0:0<=x)(h1:x<2^62):wrap .u64 x=x:=Ld
theorem hAdd {n:Nat}(hn:70<n):∀(k:Nat)(text:List UInt8)(bs:List Int)(h:Vec 8)(v:Vec 64)(c:Int)(m:Nat),text.length<=k->zY bs h v c->bs.length+text.length<2^61->k<m->
 ∃h' v' c',JQ n m (text,(h,(v,c)))=some ((),(h',(v',c')))/\zY (bs++qH text) h' v' c':=by
 intro k;induction k with
 |zero=>intro text bs h v c m hk hs hl hm;obtain⟨m,rfl⟩:∃q,m=q+1:=⟨m-1,RS⟩;obtain rfl:text=[]:=qo RS;refine⟨h,v,c,?_,by simpa [qH] using hs⟩;rw[aaJ];rfl
 |succ k ih=>
  intro text bs h v c m hk hs hl hm;obtain⟨m,rfl⟩:∃q,m=q+1:=⟨m-1,RS⟩;by_cases ht:text=[]
  .subst ht;refine⟨h,v,c,?_,by simpa [qH] using hs⟩;rw[aaJ];rfl
  .obtain⟨q,done,tail,hb,hd,htl,hh,hv,hc,hB⟩:=hs;have hpos:0<text.length:=uZ.2 ht;have hne:(!(text==[]))=true:=by cases text with
    |nil=>exact absurd rfl ht|cons a l=>rfl
   have hbl:bs.length=64*q+tail.length:=by rw[hb,fG,hd]
   have ayD:Int.tmod c 64=(tail.length:Int):=by rw[hc,Int.tmod_eq_emod_of_nonneg RS];omega
   rw[aaJ,hne,cond_true,ayD,gX (i:=(tail.length:Int)) RS RS];have hcut:List.take (Int.toNat (64-(tail.length:Int))) (List.map (fun b:UInt8=>(b.toNat:Int)) text)=qH (text.take (64-tail.length)):=by unfold qH;rw[show Int.toNat (64-(tail.length:Int))=64-tail.length by omega,List.map_take]
   rw[hcut];generalize hj:64-tail.length=j;have hlen:(qH (text.take j)).length=min j text.length:=by rw[alM,mO]
   have hsplit:qH text=qH (text.take j)++qH (text.drop j):=by unfold qH;rw[<-qM,Em]
   have hdrop:List.drop (Int.toNat (((qH (text.take j)).length:Nat):Int)) text=text.drop j:=by
    rw[Int.toNat_natCast,hlen];by_cases h:j<=text.length
    .rw[Am h]
    .rw[Nat.min_eq_right RS,List.drop_length,GJ RS]
   generalize ht':qH (text.take j)=t at hlen hsplit hdrop⊢;have aaN:lH t:=ht'▸alL _;have hlit:(v.wU (tail.length:Int) t).l=tail++t++v.l.drop (tail.length+t.length):=by show (Vec.lit 64 (v.l.take (tail.length:Int).toNat++t++v.l.drop ((tail.length:Int).toNat+t.length))).l=_;rw[Int.toNat_natCast,M8 (by rw[hv,fG,fG,qj,v.h];omega),hv]
   have g1:qX 64 (some (tail.length:Int)) none=true:=decide_eq_true ⟨RS,RS⟩;have g2:jl (((t.length:Nat)):Int) text.length=true:=zV ⟨RS,RS⟩;rw[show (!((64:Int)==0))=true from rfl,cond_true,g1,cond_true,g2,cond_true,gX RS RS];have ayE:wrap .u64 (c+wrap .u64 (t.length:Int))=(((bs++t).length:Nat):Int):=by rw[Ur (x:=(t.length:Int)) RS RS,Ur RS RS,hc,fG];omega
   rw[ayE,hdrop];have hrl:(text.drop j).length<=k:=nO
   have hnl:(bs++t).length+(text.drop j).length<2^61:=by rw[fG,qj];omega
   cases hfull:((tail.length:Int)+(t.length:Int)==64) with
   |true=>
    have hf:tail.length+t.length=64:=(by have:=eq_of_beq hfull;omega);have hblk:(v.wU (tail.length:Int) t).l=tail++t:=(by rw[hlit,GJ (by rw[v.h];omega),jD]);have Ml:lH (tail++t):=Bu (ayC (hb▸hB)) aaN;rw[cond_true,hblk,hcomp xX Ml hn];have hs':zY (bs++t) (zP h (tail++t)) (v.wU (tail.length:Int) t) (((bs++t).length:Nat):Int):=by
     refine⟨q+1,done++(tail++t),[],?_,?_,aK,?_,rfl,rfl,Bu hB aaN⟩
     .rw[hb,jD,fP]
     .rw[fG,fG,hd];omega
     .rw[ayB q Dh done (tail++t) hd xX,hh]
    obtain⟨h',v',c',e1,e2⟩:=ih _ _ _ _ _ m hrl hs' hnl RS;refine⟨h',v',c',e1,?_⟩;rw[hsplit,<-fP];exact e2
   |false=>
    have hf:tail.length+t.length≠64:=fun e=>by have:((tail.length:Int)+(t.length:Int)==64)=true:=(by rw[beq_iff_eq];omega);rw[this] at hfull;cases hfull
    rw[cond_false];have hs':zY (bs++t) h (v.wU (tail.length:Int) t) (((bs++t).length:Nat):Int):=by
     refine⟨q,done,tail++t,?_,hd,?_,hh,?_,rfl,Bu hB aaN⟩
     .rw[hb,fP]
     .rw[fG];omega
     .rw[hlit,Et (iR _),List.take_length]
    obtain⟨h',v',c',e1,e2⟩:=ih _ _ _ _ _ m hrl hs' hnl RS;refine⟨h',v',c',e1,?_⟩;rw[hsplit,<-fP];exact e2
theorem aaO {n:Nat}{text:List UInt8}{bs:List Int}{h:Vec 8}{v:Vec 64}{c:Int}(hn:70<n)(hs:zY bs h v c)(hl:bs.length+text.length<2^61)(hm:text.length<n):
 ∃h' v' c',Dp n ((h,(v,c)),text)=some (h',(v',c'))/\zY (bs++qH text) h' v' c':=by
 obtain⟨h',v',c',e1,e2⟩:=hAdd hn text.length text bs h v c n (iR _) hs hl hm;refine⟨h',v',c',?_,e2⟩;rw[axV,e1];rfl
theorem alN (c:Int):∀(k:Nat)(i:Int),(Bh c k i).length=k
 |0,_=>rfl|k+1,i=>by rw[Bh,List.length_cons,alN c k]
theorem aaP (x:Int):0<=wrap .u8 x/\wrap .u8 x<256:=by rw[IntKind.wrap_u8];exact⟨Int.emod_nonneg _ aK,Int.emod_lt_of_pos _ aK⟩
theorem alO (c:Int):∀(k:Nat)(i:Int),lH (Bh c k i)
 |0,_=>fun x hx=>BR
 |k+1,i=>fun x hx=>by
  rcases jr.1 hx with rfl|hx
  .exact aaP _
  .exact alO c k _ x hx
theorem l6 {a k:Nat}(h:a<2^30)(hk:k<=2^12):bZ a k=true:=J6 h hk
theorem ayF {n:Nat}{x1:Vec 8}{x2:Vec 64}{c:Nat}(hc:c<2^29):∀(z:Nat)(p:List Int)(m:Nat),(c+p.length+z)% 64=56->z<64->p.length+z<2^20->z<m->NU n x1 x2 (c:Nat) m p=some (p++List.replicate z 0):=by
 intro z;induction z with
 |zero=>
  intro p m hz h64 hb hm;obtain⟨m,rfl⟩:∃q,m=q+1:=⟨m-1,RS⟩;rw[alm,gX (i:=((c:Nat):Int)) RS RS,gX RS RS,Int.tmod_eq_emod_of_nonneg RS];have:(((c:Nat):Int)+(p.length:Int))% 64=56:=RS
  rw[this];simp
 |succ z ih=>
  intro p m hz h64 hb hm;obtain⟨m,rfl⟩:∃q,m=q+1:=⟨m-1,RS⟩;rw[alm,gX (i:=((c:Nat):Int)) RS RS,gX RS RS,Int.tmod_eq_emod_of_nonneg RS];have:((((c:Nat):Int)+(p.length:Int))% 64 !=56)=true:=by rw[bne_iff_ne];omega
  rw[this,show (!((64:Int)==0))=true from rfl,cond_true,cond_true,l6 dw aK,cond_true,ih (p++[0]) m xV RS xV RS,fP];rfl
theorem ayG {n:Nat}{x1:List Int}:∀(z:Nat)(p:List Int)(m:Nat),(p.length+z)% 64=56->z<64->p.length+z<2^29->z<m->NZ n x1 m p=some (p++List.replicate z 0):=by
 intro z;induction z with
 |zero=>
  intro p m hz h64 hb hm;obtain⟨m,rfl⟩:∃q,m=q+1:=⟨m-1,RS⟩;rw[alu,Int.tmod_eq_emod_of_nonneg RS];have:(p.length:Int)% 64=56:=RS
  rw[this];simp
 |succ z ih=>
  intro p m hz h64 hb hm;obtain⟨m,rfl⟩:∃q,m=q+1:=⟨m-1,RS⟩;rw[alu,Int.tmod_eq_emod_of_nonneg RS];have:((p.length:Int)% 64 !=56)=true:=by rw[bne_iff_ne];omega
  rw[this,show (!((64:Int)==0))=true from rfl,cond_true,cond_true,l6 dw aK,cond_true,ih (p++[0]) m xV RS xV RS,fP];rfl
theorem hLen {n:Nat}{x1:Vec 8}{x2:Vec 64}{c:Int}:∀(k:Nat)(i:Int)(p:List Int)(m:Nat),i+k=8->0<=i->p.length+k<2^29->k<m->JU n x1 x2 c m (p,i)=some (p++Bh c k i):=by
 intro k;induction k with
 |zero=>intro i p m hi h0 hb hm;obtain⟨m,rfl⟩:∃q,m=q+1:=⟨m-1,RS⟩;rw[aln,decide_eq_false RS,Bh,jD];rfl
 |succ k ih=>intro i p m hi h0 hb hm;obtain⟨m,rfl⟩:∃q,m=q+1:=⟨m-1,RS⟩;rw[aln,decide_eq_true (show i<8 by omega),cond_true];rw[decide_eq_true (show (0:Int)<=wrap .i64 (56-wrap .i64 (8*i)) by rw[gX (i:=8*i) RS RS,gX RS RS];omega),cond_true,l6 dw aK,cond_true,wh h0 RS];have:=ih (i+1) (p++[Y8 c i]) m RS RS xV RS;rw[fP] at this;exact this
theorem ayH {n:Nat}{x1:List Int}(hx:x1.length<2^29):∀(k:Nat)(i:Int)(p:List Int)(m:Nat),i+k=8->0<=i->p.length+k<2^30->k<m->JX n x1 m (p,i)=some (p++Bh (x1.length:Nat) k i):=by
 intro k;induction k with
 |zero=>intro i p m hi h0 hb hm;obtain⟨m,rfl⟩:∃q,m=q+1:=⟨m-1,RS⟩;rw[alv,decide_eq_false RS,Bh,jD];rfl
 |succ k ih=>intro i p m hi h0 hb hm;obtain⟨m,rfl⟩:∃q,m=q+1:=⟨m-1,RS⟩;rw[alv,decide_eq_true (show i<8 by omega),cond_true];rw[decide_eq_true (show (0:Int)<=wrap .i64 (56-wrap .i64 (8*i)) by rw[gX (i:=8*i) RS RS,gX RS RS];omega),cond_true,l6 dw aK,cond_true,wh h0 RS,Ur (x:=(x1.length:Int)) RS RS];have:=ih (i+1) (p++[Y8 (x1.length:Nat) i]) m RS RS xV RS;rw[fP] at this;exact this
theorem aaQ (c:Nat):(c+1+zpad c)% 64=56/\zpad c<64:=by unfold zpad;omega
theorem Us (c:Nat):(xA c).length=1+zpad c+8:=by unfold xA;simp only[fG,List.length_singleton,List.length_replicate,alN]
theorem alP (c:Nat):lH (xA c):=by
 refine Bu (Bu ?_ ?_) (alO _ _ _)
 .intro x hx;rw[iZ.1 hx];decide
 .intro x hx;rw[(List.mem_replicate.1 hx).2];decide
theorem ayI {n:Nat}{b:List Int}(hb:b.length<2^28)(hn:100<n):NJ n b=some (b++xA b.length):=by obtain⟨h1,h2⟩:=aaQ b.length;rw[ax5,l6 RS aK,cond_true,l6 dw aK,cond_true];rw[List.nil_append,ayG (zpad b.length) (b++[128]) n (by rw[fG,List.length_singleton];exact h1) h2 xV RS];show (JX n b n (b++[128]++List.replicate (zpad b.length) 0,0)).bind _=_;rw[ayH RS 8 0 _ n aK aK (by simp only[fG,List.length_singleton,List.length_replicate];omega) RS];unfold xA;simp only[Option.bind_some,fP]
theorem ayJ {n:Nat}{r:List Int}(hB:lH r)(hr:r.length<2^29)(hn:100<n):∀(k j:Nat)(h:Vec 8)(m:Nat),j+64*k=r.length->k<m->J3 n r m ((j:Nat),h)=some ((),Bg k h (r.drop j)):=by
 intro k;induction k with
 |zero=>intro j h m hj hm;obtain⟨m,rfl⟩:∃q,m=q+1:=⟨m-1,RS⟩;rw[alB,decide_eq_false RS];rfl
 |succ k ih=>
  intro j h m hj hm;obtain⟨m,rfl⟩:∃q,m=q+1:=⟨m-1,RS⟩;rw[alB,decide_eq_true RS,cond_true,gX (i:=((j:Nat):Int)+64) RS RS,zV (i:=((j:Nat):Int)+64) ⟨RS,RS⟩,zV (i:=((j:Nat):Int)) ⟨RS,RS⟩,Bool.and_self,cond_true];have hcut:List.drop (Int.toNat ((j:Nat):Int)) (List.take (Int.toNat (((j:Nat):Int)+64)) r)=(r.drop j).take 64:=by rw[Int.toNat_natCast,show Int.toNat (((j:Nat):Int)+64)=j+64 by omega,List.drop_take,Aq]
  have hw:=ayw (n:=n) (x:=(r.drop j).take 64) (by rw[mO,qj];omega) RS;rw[<-hcut] at hw;refine bs hw ?_;rw[hcut];show ((JZ n r (j:Nat) h (FL ((r.drop j).take 64)) n (0,h)).bind _)=_;rw[ayy 64 0 h n aK aK RS];show ((J2 n r (j:Nat) ((),oD (Nr (FL ((r.drop j).take 64))) 64 0 h) n (0,h)).bind _)=_;rw[ayA 8 0 h n aK aK RS];have:=ih (j+64) (zP h ((r.drop j).take 64)) m RS RS;rw[<-List.drop_drop] at this;exact this
theorem alQ {i:Int}(h0:0<=i)(h1:i<32):dH (wrap .i64 (Int.tdiv i 4)) 8=true/\decide ((0:Int)<=wrap .i64 (24-wrap .i64 (8*Int.tmod i 4)))=true:=by rw[Int.tdiv_eq_ediv_of_nonneg h0,Int.tmod_eq_emod_of_nonneg h0,gX (i:=i/4) RS RS,gX (i:=8*(i% 4)) RS RS,gX RS RS];exact⟨oP ⟨RS,RS⟩,decide_eq_true RS⟩
theorem hOut {n:Nat}{cK:(Vec 8)×(Vec 64)×Int}:∀(k:Nat)(i:Int)(o:Vec 32)(m:Nat),i+k=32->0<=i->k<m->JV n cK m (i,o)=some ((),oD (Ns cK.1) k i o):=by
 intro k;induction k with
 |zero=>intro i s m hi h0 hm;obtain⟨m,rfl⟩:∃q,m=q+1:=⟨m-1,RS⟩;rw[alo,decide_eq_false RS];rfl
 |succ k ih=>intro i s m hi h0 hm;obtain⟨m,rfl⟩:∃q,m=q+1:=⟨m-1,RS⟩;obtain⟨g1,g2⟩:=alQ h0 (show i<32 by omega);rw[alo,decide_eq_true (show i<32 by omega),cond_true,g1,g2,oP (i:=i) (n:=32) ⟨RS,RS⟩,wh RS RS];exact ih (i+1) _ m RS RS RS
theorem ayK {n:Nat}{h:Vec 8}:∀(k:Nat)(i:Int)(o:Vec 32)(m:Nat),i+k=32->0<=i->k<m->J4 n ((),h) m (i,o)=some ((),oD (Ns h) k i o):=by
 intro k;induction k with
 |zero=>intro i s m hi h0 hm;obtain⟨m,rfl⟩:∃q,m=q+1:=⟨m-1,RS⟩;rw[alC,decide_eq_false RS];rfl
 |succ k ih=>intro i s m hi h0 hm;obtain⟨m,rfl⟩:∃q,m=q+1:=⟨m-1,RS⟩;obtain⟨g1,g2⟩:=alQ h0 (show i<32 by omega);rw[alC,decide_eq_true (show i<32 by omega),cond_true,g1,g2,oP (i:=i) (n:=32) ⟨RS,RS⟩,wh RS RS];exact ih (i+1) _ m RS RS RS
theorem ayL {n:Nat}{b:List Int}(hB:lH b)(hb:b.length<2^28)(hbn:b.length<n)(hn:100<n):NQ n b=some (FM b):=by
 obtain⟨h1,h2⟩:=aaQ b.length;rw[ax8,ayI hb hn];have hl:(b++xA b.length).length=b.length+(1+zpad b.length+8):=by rw[fG,Us]
 show (J3 n (b++xA b.length) n (((0:Nat):Int),Dh)).bind _=_;rw[ayJ (Bu hB (alP _)) RS hn ((b.length+(1+zpad b.length+8))/64) 0 Dh n RS RS];show ((J4 n ((),Bg _ Dh (b++xA b.length)) n (0,Vec.rep 32 0)).bind _)=_;rw[ayK 32 0 _ n aK aK RS];rfl
theorem ayM {n:Nat}{b:List Int}{h:Vec 8}{v:Vec 64}{c:Int}(hs:zY b h v c)(hb:b.length<2^28)(hn:200<n):ND n (h,(v,c))=some (FM b):=by
 obtain⟨h1,h2⟩:=aaQ b.length;have hc:c=(b.length:Int):=by obtain⟨_,_,_,_,_,_,_,_,e,_⟩:=hs;exact e
 have hB:lH b:=by obtain⟨_,_,_,_,_,_,_,_,_,e⟩:=hs;exact e
 subst hc;rw[axY,ayF RS (zpad b.length) [128] n (by rw[List.length_singleton];exact h1) h2 (by rw[List.length_singleton];omega) RS];show (JU n h v (b.length:Nat) n ([128]++List.replicate (zpad b.length) 0,0)).bind _=_;rw[hLen 8 0 _ n aK aK (by simp only[fG,List.length_singleton,List.length_replicate];omega) RS];obtain⟨h',v',c',e1,e2⟩:=aaO (n:=n) (text:=l5 (xA b.length)) RS hs (by rw[Dv,Us];omega) (by rw[Dv,Us];omega);show ((Dp n ((h,(v,(b.length:Int))),l5 (xA b.length))).bind _)=_;rw[e1];show ((JV n (h',(v',c')) n (0,Vec.rep 32 0)).bind _)=_;rw[hOut 32 0 _ n aK aK RS];rw[aaM (alP _)] at e2;obtain⟨q,done,tail,hb',hd,htl,hh,_,_,_⟩:=e2;have hlen:(b++xA b.length).length=64*q+tail.length:=by rw[hb',fG,hd]
 rw[fG,Us] at hlen;have ht:tail=[]:=qo RS;subst ht;rw[jD] at hb';have hq:(b.length+(1+zpad b.length+8))/64=q:=by rw[List.length_nil] at hlen;omega
 show some (Y9 h')=some (FM b);unfold FM;rw[hq,hb',hh]
end Sh
end
section
open Go Go.Proofs aQ
namespace Sh
set_option maxRecDepth 100000
theorem ayN (n:Nat)(r:List Int):NR n r=(NQ n r).bind fun h=>some (TG h):=av
end Sh
end
section
open Go Go.Proofs aQ
namespace Sh
theorem ayO {z:Int}(h0:0<=z):mJ .u8 (wrap .u8 z) 128=z% 128+128:=by
 have h1:wrap .u8 z=z% 256:=by rw[IntKind.wrap_u8]
 rw[h1];have key:∀a:Nat,a<256->mJ .u8 ((a:Nat):Int) 128=((a% 128+128:Nat):Int):=by
  intro a ha;have:∀a:Fin 256,mJ .u8 ((a.val:Nat):Int) 128=((a.val% 128+128:Nat):Int):=Gz
  exact this ⟨a,ha⟩
 have h2:z% 256=(((z% 256).toNat:Nat):Int):=RS
 rw[h2,key _ RS];omega
theorem Ut {x:Int}(h0:0<=x)(h1:x<2^64):wrap .u64 x=x:=Ld
theorem alR {n:Nat}:∀(k:Nat)(z:Int)(p:List Int)(m:Nat),0<=z->z<128^k->z<2^64->p.length+k<2^20->k<=m->0<k->∃q y,JR n m (z,p)=some (y,p++q)/\JW n m (z,p)=some (y,p++q)/\q++[y]=Bj k z/\q.length<k/\0<=y/\y<128:=by
 intro k;induction k with
 |zero=>intro z p m _ _ _ _ _ h;omega|succ k ih=>
  intro z p m h0 h1 h64 hp hm _;obtain⟨m,rfl⟩:∃q,m=q+1:=⟨m-1,RS⟩;by_cases hz:z>=128
  .have hk:0<k:=by
    rcases Nat.eq_zero_or_pos k with rfl|h
    .have:z<128:=Gy;omega
    .exact h
   have hd:z/128<128^k:=by rw[Int.pow_succ] at h1;exact Int.ediv_lt_of_lt_mul aK h1
   obtain⟨q,y,e1,e2,e3,e4,e5⟩:=ih (z/128) (p++[z% 128+128]) m RS hd RS xV RS hk;obtain⟨s0,s1⟩:=ayg h0;refine⟨(z% 128+128)::q,y,?_,?_,?_,?_,e5⟩
   .rw[alk,decide_eq_true (show z>127 by omega),cond_true,l6 dw aK,cond_true,ayO h0,s1];rw[fP] at e1;exact e1
   .rw[alr,decide_eq_true hz,cond_true,show (!((128:Int)==0))=true from rfl,cond_true,l6 dw aK,cond_true,cond_true];rw[Int.tmod_eq_emod_of_nonneg h0,ayf h0,Ut RS RS];have hw:wrap .u8 (wrap .u8 (z% 128)+128)=z% 128+128:=(by rw[IntKind.wrap_u8,IntKind.wrap_u8];omega);rw[hw];rw[fP] at e2;exact e2
   .rw[Bj,if_pos hz,<-e3];rfl
   .simp;omega
  .refine⟨[],z,?_,?_,?_,aD,h0,RS⟩
   .rw[alk,decide_eq_false (show¬z>127 by omega),jD];rfl
   .rw[alr,decide_eq_false hz,jD];rfl
   .rw[Bj,if_neg hz];rfl
def rI (x:Int):Prop:= -(2^63)<=x/\x<2^63
theorem aaR {x:Int}(h:rI x):0<=vU x/\vU x<2^64:=by unfold vU;unfold rI at h;split<;>omega
theorem ayP {a:Int}(h0:0<=a)(h1:a<2^64):dS .u64 a 0=a:=by
 unfold dS;obtain⟨c,rfl⟩:∃c:Nat,a=(c:Int):=⟨a.toNat,(GI h0).symm⟩;have hc:c<2^64:=by exact_mod_cast h1
 have e:(BitVec.ofInt IntKind.u64.bits (c:Int)^^^BitVec.ofInt IntKind.u64.bits 0).toNat=c:=by show (BitVec.ofInt 64 (c:Int)^^^0#64).toNat=_;rw[BitVec.xor_zero,BitVec.ofInt_natCast,BitVec.toNat_ofNat,El hc]
 rw[e];exact Ut h0 h1
theorem ayQ {a:Int}(h0:0<=a)(h1:a<2^64):dS .u64 a (2^64-1)=2^64-1-a:=by
 unfold dS;obtain⟨c,rfl⟩:∃c:Nat,a=(c:Int):=⟨a.toNat,(GI h0).symm⟩;have hc:c<2^64:=by exact_mod_cast h1
 have e:(BitVec.ofInt IntKind.u64.bits (c:Int)^^^BitVec.ofInt IntKind.u64.bits (2^64-1)).toNat=2^64-1-c:=by show (BitVec.ofInt 64 (c:Int)^^^BitVec.ofInt 64 (2^64-1)).toNat=_;rw[show BitVec.ofInt 64 (2^64-1)=BitVec.allOnes 64 by decide,BitVec.xor_allOnes,BitVec.toNat_not,BitVec.ofInt_natCast,BitVec.toNat_ofNat,El hc]
 rw[e,IntKind.wrap_u64];omega
theorem ayR {x:Int}(h:rI x):dS .u64 (jg .u64 (wrap .u64 x) 1) (wrap .u64 (gu .i64 x 63))=vU x:=by
 obtain⟨a,b⟩:=h;have hs:jg .u64 (wrap .u64 x) 1=wrap .u64 (wrap .u64 x*2):=rfl;have hr:gu .i64 x 63=x.fdiv (2^63):=rfl;rw[hs,hr,Int.fdiv_eq_ediv_of_nonneg _ aK];unfold vU;by_cases hx:x<0
 .rw[if_pos hx,show x/2^63= -1 by omega,show wrap .u64 (-1)=2^64-1 by rw[IntKind.wrap_u64];decide];have:wrap .u64 (wrap .u64 x*2)=2*x+2^64:=by rw[IntKind.wrap_u64,IntKind.wrap_u64];omega
  rw[this,ayQ RS RS];omega
 .rw[if_neg hx,show x/2^63=0 by omega,Ut (x:=x) RS RS,Ut (x:=x*2) RS RS,show wrap .u64 0=0 by rw[IntKind.wrap_u64];decide,ayP RS RS];omega
theorem alS:∀(k:Nat)(z:Int),0<=z->lH (Bj k z)
 |0,_,_=>fun x hx=>BR
 |k+1,z,h=>by
  unfold Bj;split
  .intro x hx;rcases jr.1 hx with rfl|hx
   .omega
   .exact alS k _ RS x hx
  .intro x hx;rw[iZ.1 hx];omega
theorem ayS {x:Int}(h:rI x):lH (encI x):=alS 10 _ (aaR h).1
theorem alT:∀(k:Nat)(z:Int),(Bj k z).length<=k
 |0,_=>iR _|k+1,z=>by
  unfold Bj;split
  .rw[List.length_cons];have:=alT k (z/128);omega
  .simp
theorem xE (x:Int):(encI x).length<=10:=alT _ _
theorem aaS {y:Int}(h0:0<=y)(h1:y<128):wrap .u8 y=y:=by rw[IntKind.wrap_u8];omega
theorem N9 {n:Nat}{x:Int}(h:rI x)(hn:20<n):yO n x=some (encI x):=by obtain⟨z0,z1⟩:=aaR h;obtain⟨q,y,e1,_,e3,e4,e5,e6⟩:=alR (n:=n) 10 (vU x) [] n z0 (Int.lt_of_lt_of_le z1 aK) z1 aK RS aK;rw[axW,ayR h];show ((JR n n (vU x,[])).bind _)=_;rw[e1,List.nil_append,Option.bind_some];rw[l6 (by show q.length+1<_;omega) aK,cond_true,aaS e5 e6,e3];rfl
theorem Oa {n:Nat}{x:Int}(h:rI x)(hn:20<n):yP n x=some (encI x):=by
 obtain⟨z0,z1⟩:=aaR h;obtain⟨q,y,_,e1,e3,e4,e5,e6⟩:=alR (n:=n) 10 (vU x) [] n z0 (Int.lt_of_lt_of_le z1 aK) z1 aK RS aK;obtain⟨a,b⟩:=h;rw[ax2];by_cases hx:x<0
 .have hz:wrap .u64 (wrap .u64 (wrap .u64 (wrap .i64 (-1-x))*2)+1)=vU x:=by unfold vU;rw[if_pos hx,IntKind.wrap_i64,IntKind.wrap_u64,IntKind.wrap_u64,IntKind.wrap_u64];omega
  rw[decide_eq_true hx,cond_true,hz,e1,List.nil_append,Option.bind_some];rw[l6 (by show q.length+1<_;omega) aK,cond_true,aaS e5 e6,e3];rfl
 .have hz:wrap .u64 (wrap .u64 x*2)=vU x:=by unfold vU;rw[if_neg hx,IntKind.wrap_u64,IntKind.wrap_u64];omega
  rw[decide_eq_false hx,cond_false,hz,e1,List.nil_append,Option.bind_some];rw[l6 (by show q.length+1<_;omega) aK,cond_true,aaS e5 e6,e3];rfl
theorem gR {U:Type}{c:Bool}{o r:Option U}(h:c=true)(k:o=r):(bif c then o else none)=r:=Ef
theorem Bv {k:Nat}(h:k<2^62):rI ((k:Nat):Int):=QL
theorem alU {s:List UInt8}(h:s.length<2^62):lH (fA s):=Bu (ayS (Bv h)) (alL _)
theorem Ob (s:List UInt8):(fA s).length<=s.length+10:=by unfold fA;rw[fG,alM];have:=xE (s.length:Int);omega
theorem alV {n:Nat}{s:List UInt8}(h:s.length<2^29)(hn:20<n):JC n s=some (fA s):=by have hl:=xE (s.length:Int);rw[axX];exact bs (N9 (Bv RS) hn) (gR (l6 (by rw[fH];omega) aK) rfl)
theorem alW {n:Nat}{s:List UInt8}(h:s.length<2^29)(hn:20<n):JI n s=some (fA s):=by have hl:=xE (s.length:Int);rw[ax3];exact bs (Oa (Bv RS) hn) (gR (l6 (by rw[fH];omega) aK) rfl)
def jA {U:Type}(f:U->List Int)(l:List U):Nat:=l.foldr (fun x s=>(f x).length+s) 0
theorem Oc {U:Type}(f:U->List Int):∀l:List U,(l.flatMap f).length=jA f l
 | []=>rfl|x::l=>by rw[kT,fG,Oc f l];rfl
theorem J7 {U:Type}{f:U->List Int}{b:Nat}:∀{l:List U},(∀x∈l,(f x).length<=b)->jA f l<=b*l.length
 | [],_=>pR _|x::l,h=>by have h1:=h x aD;have h2:=J7 (f:=f) (l:=l) fun y hy=>h y (jT _ hy);show (f x).length+jA f l<=b*(l.length+1);rw[Nat.mul_add,Nat.mul_one];omega
theorem ayT {n:Nat}{l:List Int}(hb:∀x∈l,rI x)(hlen:l.length<2^62)(hn:20<n):∀(k i m:Nat)(a:List Int),i+k=l.length->k<m->a.length+jA encI (l.drop i)<2^29->NW n l m (a,(i:Int))=some (a++(l.drop i).flatMap encI):=by
 intro k;induction k with
 |zero=>intro i m a hi hm hc;obtain⟨m,rfl⟩:∃m',m=m'+1:=⟨m-1,RS⟩;rw[alq,nW RS,nG RS,List.flatMap_nil,jD];rfl
 |succ k ih=>
  intro i m a hi hm hc;obtain⟨m,rfl⟩:∃m',m=m'+1:=⟨m-1,RS⟩;have hlt:i<l.length:=RS
  have hx:l[i]? =some l[i]:=fI hlt;have hd:l.drop i=l[i]::l.drop (i+1):=om hlt;rw[hd] at hc⊢;have hm':=hb l[i] (lM hlt);generalize l[i]=x at hx hc hm'⊢;rw[alq,iU hx,eG hx,fU RS,cond_true];have hsz:jA encI (x::l.drop (i+1))=(encI x).length+jA encI (l.drop (i+1)):=rfl;have h:=ih (i+1) m (a++encI x) RS RS xX;rw[fP] at h;exact bs rfl (bs (N9 hm' hn) (gR (l6 RS aK) h))
theorem ayU {n:Nat}{l:List Int}(hb:∀x∈l,rI x)(hlen:l.length<2^62)(hn:20<n):∀(k i m:Nat)(a:List Int),i+k=l.length->k<m->a.length+jA encI (l.drop i)<2^29->N8 n l m (a,(i:Int))=some (a++(l.drop i).flatMap encI):=by
 intro k;induction k with
 |zero=>intro i m a hi hm hc;obtain⟨m,rfl⟩:∃m',m=m'+1:=⟨m-1,RS⟩;rw[alD,nW RS,nG RS,List.flatMap_nil,jD];rfl
 |succ k ih=>
  intro i m a hi hm hc;obtain⟨m,rfl⟩:∃m',m=m'+1:=⟨m-1,RS⟩;have hlt:i<l.length:=RS
  have hx:l[i]? =some l[i]:=fI hlt;have hd:l.drop i=l[i]::l.drop (i+1):=om hlt;rw[hd] at hc⊢;have hm':=hb l[i] (lM hlt);generalize l[i]=x at hx hc hm'⊢;rw[alD,iU hx,eG hx,fU RS,cond_true];have hsz:jA encI (x::l.drop (i+1))=(encI x).length+jA encI (l.drop (i+1)):=rfl;have h:=ih (i+1) m (a++encI x) RS RS xX;rw[fP] at h;exact bs rfl (bs (Oa hm' hn) (gR (l6 RS aK) h))
def Dw (l:List Int):List Int:=encI (l.length:Nat)++l.flatMap encI
def Dx (l:List (List UInt8)):List Int:=encI (l.length:Nat)++l.flatMap fA
theorem alX {U:Type}{f:U->List Int}:∀{l:List U},(∀x∈l,lH (f x))->lH (l.flatMap f)
 | [],_=>fun x hx=>BR
 |x::l,h=>by rw[kT];exact Bu (h x aD) (alX fun y hy=>h y (jT _ hy))
theorem aaT {l:List Int}:(Dw l).length<=10+10*l.length:=by unfold Dw;rw[fG,Oc];have h1:=xE (l.length:Int);have h2:=J7 (f:=encI) (b:=10) (l:=l) fun x _=>xE x;omega
theorem aaU {l:List (List UInt8)}{b:Nat}(h:∀x∈l,x.length<=b):(Dx l).length<=10+(b+10)*l.length:=by
 unfold Dx;rw[fG,Oc];have h1:=xE (l.length:Int);have h2:=J7 (f:=fA) (b:=b+10) (l:=l) fun x hx=>by have:=Ob x;have:=h x hx;omega
 omega
theorem ayV {n:Nat}{l:List Int}(hb:∀x∈l,rI x)(hl:l.length<2^20)(hn:l.length<n)(hn2:20<n):FU n l=some (Dw l):=by have h1:=xE (l.length:Int);have h2:=J7 (f:=encI) (b:=10) (l:=l) fun x _=>xE x;rw[ax1];refine bs (?_:_=some (Dw l)) rfl;rw[ax0];exact bs (N9 (Bv RS) hn2) (bs (ayT hb RS hn2 l.length 0 n _ RS hn Lm) rfl)
theorem ayW {n:Nat}{l:List Int}(hb:∀x∈l,rI x)(hl:l.length<2^20)(hn:l.length<n)(hn2:20<n):FX n l=some (Dw l):=by have h1:=xE (l.length:Int);have h2:=J7 (f:=encI) (b:=10) (l:=l) fun x _=>xE x;rw[aya];exact bs (Oa (Bv RS) hn2) (bs (ayU hb RS hn2 l.length 0 n _ RS hn Lm) rfl)
theorem ayX (n:Nat):∃v,Ny n ()=some (Dh,(v,(0:Int))):=by rw[axQ];exact⟨_,rfl⟩
theorem ayY {n:Nat}{ls:List (List UInt8)}(hb:∀x∈ls,x.length<2^28)(hlen:ls.length<2^62)(hn:70<n):∀(k i m:Nat)(b:List Int)(h:Vec 8)(v:Vec 64)(c:Int),i+k=ls.length->k<m->zY b h v c->b.length+jA fA (ls.drop i)<2^28->jA fA (ls.drop i)<n->
 ∃h' v' c',NV n ls m ((i:Int),(h,(v,c)))=some ((),(h',(v',c')))/\zY (b++(ls.drop i).flatMap fA) h' v' c':=by
 intro k;induction k with
 |zero=>
  intro i m b h v c hi hm hs _ _;obtain⟨m,rfl⟩:∃m',m=m'+1:=⟨m-1,RS⟩;refine⟨h,v,c,?_,?_⟩
  .rw[alp,nW RS];rfl
  .rw[nG RS,List.flatMap_nil,jD];exact hs
 |succ k ih=>
  intro i m b h v c hi hm hs hsz alY;obtain⟨m,rfl⟩:∃m',m=m'+1:=⟨m-1,RS⟩;have hlt:i<ls.length:=RS
  have hx:ls[i]? =some ls[i]:=fI hlt;have hd:ls.drop i=ls[i]::ls.drop (i+1):=om hlt;rw[hd] at hsz alY⊢;have hm':=hb ls[i] (lM hlt);generalize ls[i]=x at hx hsz alY hm'⊢;have e:jA fA (x::ls.drop (i+1))=(fA x).length+jA fA (ls.drop (i+1)):=rfl;have hB:lH (fA x):=alU RS;obtain⟨h1,v1,c1,g1,g2⟩:=aaO (n:=n) (text:=l5 (fA x)) hn hs (by rw[Dv];omega) (by rw[Dv];omega);rw[aaM hB] at g2;obtain⟨h2,v2,c2,g3,g4⟩:=ih (i+1) m (b++fA x) h1 v1 c1 RS RS g2 xX RS;refine⟨h2,v2,c2,?_,?_⟩
  .rw[alp,iU hx,eG hx,fU RS,cond_true];exact bs rfl (bs (alV RS RS) (bs g1 g3))
  .rw[kT,<-fP];exact g4
theorem ayZ (t:Int){ls:List (List UInt8)}(hb:∀x∈ls,x.length<2^28):lH (Jm t ls):=
 Bu (fun x hx=>by rw[iZ.1 hx];exact aaP t) (alX fun x hx=>alU (by have:=hb x hx;omega))
theorem Od {n:Nat}{t:Int}{ls:List (List UInt8)}(hb:∀x∈ls,x.length<2^28)(hs:1+jA fA ls<2^28)(hsn:jA fA ls<n)(hl:ls.length<n)(hn:200<n)(hlen:ls.length<2^62):Dq n (t,ls)=some (j4 t ls):=by
 rw[axZ];obtain⟨v,hv⟩:=ayX n;have s0:zY [] Dh v 0:=⟨0,[],[],rfl,rfl,aK,rfl,rfl,rfl,fun x hx=>BR⟩;have hB1:lH [wrap .u8 t]:=fun x hx=>by rw[iZ.1 hx];exact aaP t
 obtain⟨h1,v1,c1,g1,g2⟩:=aaO (n:=n) (text:=l5 [wrap .u8 t]) RS s0 (by rw[Dv];simp) (by rw[Dv];simp;omega);rw[aaM hB1,List.nil_append] at g2;obtain⟨h2,v2,c2,g3,g4⟩:=ayY (n:=n) hb hlen RS ls.length 0 n _ h1 v1 c1 RS hl g2 (by rw[qm,List.length_singleton];exact hs) (by rw[qm];exact hsn);rw[qm] at g4;have g5:=ayM (n:=n) g4 (by rw[fG,List.length_singleton,Oc];exact hs) hn;refine bs hv (bs g1 (bs g3 ?_));refine bs g5 ?_;exact gR aK (gR aK rfl)
theorem ay0 {n:Nat}{ls:List (List UInt8)}(hb:∀x∈ls,x.length<2^28)(hlen:ls.length<2^62)(hn:20<n):∀(k i m:Nat)(a:List Int),i+k=ls.length->k<m->a.length+jA fA (ls.drop i)<2^29->NY n ls m (a,(i:Int))=some (a++(ls.drop i).flatMap fA):=by
 intro k;induction k with
 |zero=>intro i m a hi hm hc;obtain⟨m,rfl⟩:∃m',m=m'+1:=⟨m-1,RS⟩;rw[als,nW RS,nG RS,List.flatMap_nil,jD];rfl
 |succ k ih=>
  intro i m a hi hm hc;obtain⟨m,rfl⟩:∃m',m=m'+1:=⟨m-1,RS⟩;have hlt:i<ls.length:=RS
  have hx:ls[i]? =some ls[i]:=fI hlt;have hd:ls.drop i=ls[i]::ls.drop (i+1):=om hlt;rw[hd] at hc⊢;have hm':=hb ls[i] (lM hlt);generalize ls[i]=x at hx hc hm'⊢;rw[als,iU hx,eG hx,fU RS,cond_true];have hsz:jA fA (x::ls.drop (i+1))=(fA x).length+jA fA (ls.drop (i+1)):=rfl;have h:=ih (i+1) m (a++fA x) RS RS xX;rw[fP] at h;exact bs rfl (bs (alW RS hn) (gR (l6 RS aK) h))
theorem aaV {n:Nat}{t:Int}{ls:List (List UInt8)}(hb:∀x∈ls,x.length<2^28)(hs:1+jA fA ls<2^28)(hsn:1+jA fA ls<n)(hl:ls.length<n)(hn:200<n)(hlen:ls.length<2^62):FW n (t,ls)=some (j4 t ls):=by
 rw[ax9];have h1:NH n (t,ls)=some (Jm t ls):=by rw[ax4];refine bs (ay0 hb hlen RS ls.length 0 n _ RS hl (by rw[qm,List.length_singleton];omega)) ?_;rw[qm];rfl
 have aF7:(Jm t ls).length=1+jA fA ls:=by unfold Jm;rw[fG,List.length_singleton,Oc]
 have h2:NR n (Jm t ls)=some (j4 t ls):=by rw[ayN,ayL (ayZ t hb) RS RS RS];rfl
 exact bs h1 (bs h2 rfl)
end Sh
end
section
open Go Go.Proofs aQ
namespace Sh
set_option maxRecDepth 100000
attribute [local irreducible] j4
theorem Oe {n:Nat}(h:2<=n):1<=eH n/\eH n<n:=by have h1:2^Nat.log2 (n-1)<=n-1:=Nat.log2_self_le RS;have h2:0<2^Nat.log2 (n-1):=Nat.pow_pos aK;unfold eH;omega
theorem ay1:∀i:Fin 256,1<=i.val->xD[i.val]? =some (UInt8.ofNat (Nat.log2 i.val+1)):=Gz
theorem aaW {x:Nat}(h1:1<=x)(h2:x<256):aG xD (wrap .u8 ((x:Nat):Int))=some (UInt8.ofNat (Nat.log2 x+1)):=by
 have hw:wrap .u8 ((x:Nat):Int)=((x:Nat):Int):=by rw[IntKind.wrap_u8];omega
 have hl:xD.length=256:=Gz
 rw[hw];unfold aG;rw[if_pos ⟨RS,by rw[hl];omega⟩,Int.toNat_natCast];exact ay1 ⟨x,h2⟩ h1
theorem aaX {x:Nat}(h1:1<=x)(h2:x<256):Nat.log2 x<8:=(Nat.log2_lt RS).2 RS
theorem aaY {x:Nat}(h:256<=x):Nat.log2 x=8+Nat.log2 (x/256):=by
 have hx:x/256≠0:=RS
 apply Nat.le_antisymm
 .apply Nat.le_of_lt_succ;rw[Nat.log2_lt RS];have h1:x/256<2^(Nat.log2 (x/256)+1):=Nat.lt_log2_self;have h2:2^(8+Nat.log2 (x/256)).succ=256*2^(Nat.log2 (x/256)+1):=by rw[Nat.succ_eq_add_one,oZ,Nat.pow_add]
  rw[h2];omega
 .rw[Nat.le_log2 RS,Nat.pow_add];have h1:2^Nat.log2 (x/256)<=x/256:=Nat.log2_self_le hx;have:2^8*2^Nat.log2 (x/256)<=2^8*(x/256):=Nat.mul_le_mul_left _ h1;omega
theorem ay2 {n x:Nat}(h1:1<=x)(h2:x<65536):Dr n ((x:Nat):Int)=some ((Nat.log2 x+1:Nat):Int):=by
 rw[Uf];refine kQ (decide_eq_false RS) (kQ (decide_eq_false RS) ?_);by_cases h:256<=x
 .have hl:=aaY h;have hs:=aaX (x:=x/256) RS RS;refine iV (decide_eq_true RS) ?_;refine gR aK ?_;have hsh:gu .u64 ((x:Nat):Int) 8=((x/256:Nat):Int):=by show Int.fdiv ((x:Nat):Int) (2^8)=_;rw[Int.fdiv_eq_ediv_of_nonneg _ aK];omega
  rw[hsh,aaW RS RS];show some _=_;congr 1;rw[UInt8.toNat_ofNat_of_lt' (show Nat.log2 (x/256)+1<256 by omega),hl];rw[IntKind.wrap_i64,IntKind.wrap_i64,IntKind.wrap_i64];omega
 .have hs:=aaX (x:=x) RS RS;refine kQ (decide_eq_false RS) ?_;rw[aaW RS RS];show some _=_;congr 1;rw[UInt8.toNat_ofNat_of_lt' (show Nat.log2 x+1<256 by omega)];rw[IntKind.wrap_i64,IntKind.wrap_i64];omega
theorem alZ {x k:Nat}(h:2^k<=x):Nat.log2 x=k+Nat.log2 (x/2^k):=by
 have hk:0<2^k:=Nat.pow_pos aK;have hx:x/2^k≠0:=by have:=Nat.div_pos h hk;omega
 have hx0:x≠0:=RS
 apply Nat.le_antisymm
 .apply Nat.le_of_lt_succ;rw[Nat.log2_lt hx0];have h1:x/2^k<2^(Nat.log2 (x/2^k)+1):=Nat.lt_log2_self;have h2:2^(k+Nat.log2 (x/2^k)).succ=2^(Nat.log2 (x/2^k)+1)*2^k:=by rw[Nat.succ_eq_add_one,oZ,Nat.pow_add,uY]
  rw[h2];exact(Nat.div_lt_iff_lt_mul hk).1 h1
 .rw[Nat.le_log2 hx0,Nat.pow_add];have h1:2^Nat.log2 (x/2^k)<=x/2^k:=Nat.log2_self_le hx;have h2:2^k*2^Nat.log2 (x/2^k)<=2^k*(x/2^k):=Nat.mul_le_mul_left _ h1;exact eZ h2 (Nat.mul_div_le ..)
theorem Uu (x k:Nat)(hk:k<=64):gu .u64 ((x:Nat):Int) ((k:Nat):Int)=((x/2^k:Nat):Int):=by show Int.fdiv ((x:Nat):Int) (2^min (((k:Nat):Int)).toNat 64)=_;rw[Int.toNat_natCast,Am hk,Int.fdiv_eq_ediv_of_nonneg _ (by exact Int.le_of_lt (Int.pow_pos aK))];rw[Int.natCast_ediv];congr 1
theorem Uv {y a:Nat}(h1:1<=y)(h2:y<256)(ha:a<=64):(aG xD (wrap .u8 ((y:Nat):Int))).bind (fun (r2:UInt8)=>some (wrap .i64 (((a:Nat):Int)+wrap .i64 (r2.toNat:Int))))=some ((a+Nat.log2 y+1:Nat):Int):=by have hs:=aaX h1 h2;rw[aaW h1 h2];show some _=_;congr 1;rw[UInt8.toNat_ofNat_of_lt' (show Nat.log2 y+1<256 by omega)];simp only[IntKind.wrap_i64];omega
theorem ay3 {n x:Nat}(h1:4294967296<=x)(h2:x<2^41):Dr n ((x:Nat):Int)=some ((Nat.log2 x+1:Nat):Int):=by
 rw[Uf];have hl:=alZ (x:=x) (k:=32) RS;have hy1:1<=x/2^32:=RS
 have hy2:x/2^32<512:=RS
 have ay4:gu .u64 ((x:Nat):Int) (32:Int)=((x/2^32:Nat):Int):=Uu x 32 aK;rw[iV (decide_eq_true RS) rfl,iV aK rfl,ay4];generalize x/2^32=y at hl hy1 hy2;rw[kQ (decide_eq_false RS) rfl];by_cases h8:256<=y
 .have aaZ:=aaY h8;have s8:gu .u64 ((y:Nat):Int) (8:Int)=((y/2^8:Nat):Int):=Uu y 8 aK;rw[iV (decide_eq_true RS) rfl,iV aK rfl,s8,show wrap .i64 ((32:Int)+(8:Int))=((40:Nat):Int) by decide];refine(Uv RS RS aK).trans ?_;rw[hl,aaZ,show y/2^8=y/256 by omega];congr 2;omega
 .rw[kQ (decide_eq_false RS) rfl,show (32:Int)=((32:Nat):Int) from rfl];refine(Uv RS RS aK).trans ?_;rw[hl]
theorem ay5 {n x:Nat}(h1:65536<=x)(h2:x<4294967296):Dr n ((x:Nat):Int)=some ((Nat.log2 x+1:Nat):Int):=by
 rw[Uf];have hl:=alZ (x:=x) (k:=16) RS;have hy1:1<=x/2^16:=RS
 have hy2:x/2^16<65536:=RS
 have s16:gu .u64 ((x:Nat):Int) (16:Int)=((x/2^16:Nat):Int):=Uu x 16 aK;rw[kQ (decide_eq_false RS) rfl,iV (decide_eq_true RS) rfl,iV aK rfl,s16];generalize x/2^16=y at hl hy1 hy2;by_cases h8:256<=y
 .have aaZ:=aaY h8;have s8:gu .u64 ((y:Nat):Int) (8:Int)=((y/2^8:Nat):Int):=Uu y 8 aK;rw[iV (decide_eq_true RS) rfl,iV aK rfl,s8,show wrap .i64 (wrap .i64 ((0:Int)+(16:Int))+(8:Int))=((24:Nat):Int) by decide];refine(Uv RS RS aK).trans ?_;rw[hl,aaZ,show y/2^8=y/256 by omega];congr 2;omega
 .rw[kQ (decide_eq_false RS) rfl,show wrap .i64 ((0:Int)+(16:Int))=((16:Nat):Int) by decide];refine(Uv RS RS aK).trans ?_;rw[hl]
theorem al0 {n x:Nat}(h1:1<=x)(h2:x<2^41):Dr n ((x:Nat):Int)=some ((Nat.log2 x+1:Nat):Int):=by
 by_cases h16:x<65536
 .exact ay2 h1 h16
 by_cases h32:x<4294967296
 .exact ay5 RS h32
 .exact ay3 RS h2
theorem Og {n k:Nat}(h2:2<=k)(h:k<=2^40):zT n ((k:Nat):Int)=some ((eH k:Nat):Int):=by
 rw[ayb,gX (i:=((k:Nat):Int)-1) RS RS,Ur (x:=((k:Nat):Int)-1) RS RS,show ((k:Nat):Int)-1=((k-1:Nat):Int) by omega];have hl:Nat.log2 (k-1)<41:=(Nat.log2_lt RS).2 RS;have h1:Bp n ((k-1:Nat):Int)=some ((Nat.log2 (k-1)+1:Nat):Int):=by rw[aaK];exact bs (al0 RS RS) rfl
 refine bs h1 ?_;rw[gX RS RS];refine gR (decide_eq_true RS) ?_;have e:(((Nat.log2 (k-1)+1:Nat):Int))-1=((Nat.log2 (k-1):Nat):Int):=RS
 rw[e];show some (wrap .i64 (1*2^min (((Nat.log2 (k-1):Nat):Int)).toNat 64))=_;congr 1;rw[Int.toNat_natCast,Am RS,Int.one_mul];have hp:2^Nat.log2 (k-1)<=k-1:=Nat.log2_self_le RS;have hc:((2^Nat.log2 (k-1):Nat):Int)=(2:Int)^Nat.log2 (k-1):=by push_cast;rfl
 rw[<-hc];unfold eH;generalize 2^Nat.log2 (k-1)=q at hp⊢;exact gX RS RS
theorem ay6 (a b x:au)(h:Nu (a,b)=some x):Pure E 141 [a.v,b.v] x.v:=by
 cases h;refine ale 1000 (a,b) _ ?_;have la:(dV a).length=16:=rfl;have lb:(dV b).length=16:=rfl;have le:∀d:au,(fA (dV d)).length=17:=fun d=>rfl;have hsz:jA fA [dV a,dV b]=34:=by show (fA (dV a)).length+((fA (dV b)).length+0)=34;rw[le,le]
 rw[alE];refine bs (Od (n:=1000) (t:=31) (ls:=[dV a,dV b]) (fun x hx=>?_) ?_ ?_ (by show 2<1000;decide) aK (by show 2<2^62;decide)) rfl
 .rcases jr.1 hx with rfl|hx
  .omega
  .rw[iZ.1 hx];omega
 .rw[hsz];decide
 .rw[hsz];decide
theorem ay7 (p x:Int)(h:Dj p=some x):Pure E 132 [.int .i64 p] (.int .i64 x):=by
 unfold Dj at h;split at h
 .rename_i hc;cases h;have:=Og (n:=5) (k:=p.toNat) RS RS;rw[GI RS] at this;exact aaE 5 p _ this
 .cases h
end Sh
end
