import Derived.IntWalk
import Derived.Test.YteniejlbjfigdaaGreatDoorF519
set_option linter.all false
open Go.IntKind (wrap)
section
open Go Go.Proofs aR
namespace Sh
theorem FB {J:Type}(l:List J)(i:Nat):aK l (i:Int)=l[i]? :=by
 unfold aK;by_cases h:i<l.length
 .rw[if_pos ⟨RS,RS⟩];simp
 .rw[if_neg RS];simp;omega
theorem fF {J:Type}{l:List J}{i:Nat}{x:J}(h:l[i]? =some x):aK l (i:Int)=some x:=by rw[FB,h]
theorem ou {J:Type}{l:List J}{i:Nat}{x:J}(h:l[i]? =some x):i<l.length:=by rw[qx] at h;exact h.1
theorem jm {J:Type}{l:List J}{i:Nat}{x:J}(h:l[i]? =some x):decide ((i:Int)< (l.length:Int))=true:=by have:=ou h;simp;omega
theorem FC {J:Type}(l:List J):decide ((l.length:Int)< (l.length:Int))=false:=aB
theorem fU {i:Nat}(h:i<2^62):wrap .i64 ((i:Int)+(1:Int))=((i+1:Nat):Int):=Ac
def foldI {J β Z:Type}(step:J->Nat->Z->(Z->β)->β)(fin:Z->β):Nat->List J->Z->β
 |_,[],s=>fin s|i,x::l,s=>step x i s fun s=>foldI step fin (i+1) l s
theorem aun {J β Z:Type}{L:Nat->Z->Int->Option β}{l:List J}(step:J->Nat->Z->(Z->Option β)->Option β)(fin:Z->Option β)(hs:∀m (i:Nat) x s,l[i]? =some x->L (m+1) s (i:Int)=step x i s fun s=>L m s ((i+1:Nat):Int))(hf:∀m s,L (m+1) s (l.length:Int)=fin s)(hc:∀x (i:Nat) s k k',(∀s,k s=k' s)->step x i s k=step x i s k'):∀(k i m:Nat)(s:Z),i+k=l.length->k<m->L m s (i:Int)=foldI step fin i (l.drop i) s:=by
 intro k;induction k with
 |zero=>
  intro i m s hi hm;obtain⟨m,rfl⟩:∃m',m=m'+1:=⟨m-1,RS⟩;obtain rfl:i=l.length:=RS
  rw[hf,List.drop_length];rfl
 |succ k ih=>
  intro i m s hi hm;obtain⟨m,rfl⟩:∃m',m=m'+1:=⟨m-1,RS⟩;have hlt:i<l.length:=RS
  have hx:l[i]? =some l[i]:=gG hlt;rw[hs m i l[i] s hx,nW hlt];exact hc _ _ _ _ _ fun s=>ih (i+1) m s RS RS
theorem ZG {J β:Type}{L:Nat->Int->Option β}{l:List J}(step:J->Nat->Option β->Option β)(fin:Option β)(hs:∀m (i:Nat) x,l[i]? =some x->L (m+1) (i:Int)=step x i (L m ((i+1:Nat):Int)))(hf:∀m,L (m+1) (l.length:Int)=fin){m:Nat}(hm:l.length<m):
 L m (0:Int)=foldI (Z:=Unit) (fun x i _ k=>step x i (k ())) (fun _=>fin) 0 l ():=by
 have:=aun (L:=fun m (_:Unit) i=>L m i) (l:=l) (fun x i _ k=>step x i (k ())) (fun _=>fin) (fun m i x _ h=>hs m i x h) (fun m _=>hf m) (fun x i s k k' h=>by rw[h]) l.length 0 m () RS hm;simpa using this
theorem Te {J:Type}{γ:Type}(p:J->Bool)(f:Nat->γ)(z:γ):∀(l:List J)(i:Nat),foldI (Z:=Unit) (fun x i _ (k:Unit->Option γ)=>bif p x then some (f i) else k ()) (fun _=>some z) i l ()=some (match l.findIdx? p with|some j=>f (i+j)|none=>z)
 | [],i=>rfl|x::l,i=>by
  show (bif p x then some (f i) else foldI _ _ (i+1) l ())=_;rw[List.findIdx?_cons];cases hp:p x
  .rw[cond_false,Te p f z l (i+1)];simp only[bZ,if_false];cases l.findIdx? p with
   |none=>rfl|some j=>simp only[Option.map_some];rw[Nat.add_right_comm,oG]
  .simp
theorem Ba {J β Z:Type}{L:Nat->Z->Int->Option β}{l:List J}(hs:∀m (i:Nat) x s,l[i]? =some x->(∀s,∃r,L m s ((i+1:Nat):Int)=some r)->∃r,L (m+1) s (i:Int)=some r)(hf:∀m s (i:Nat),l.length<=i->∃r,L (m+1) s (i:Int)=some r):
 ∀(k i m:Nat)(s:Z),l.length<=i+k->k<m->∃r,L m s (i:Int)=some r:=by
 intro k;induction k with
 |zero=>intro i m s hi hm;obtain⟨m,rfl⟩:∃m',m=m'+1:=⟨m-1,RS⟩;exact hf m s i RS
 |succ k ih=>
  intro i m s hi hm;obtain⟨m,rfl⟩:∃m',m=m'+1:=⟨m-1,RS⟩;by_cases h:l.length<=i
  .exact hf m s i h
  .exact hs m i _ s (gG RS) fun s=>ih (i+1) m s RS RS
theorem mD {J:Type}{l:List J}{i:Nat}(h:l.length<=i):decide ((i:Int)< (l.length:Int))=false:=dP
theorem bs {J β:Type}{o:Option J}{a:J}{f:J->Option β}{r:Option β}(h:o=some a)(k:f a=r):o.bind f=r:=BA
theorem Nv {a k:Nat}(h:a<2^30)(hk:k<=2^12):cK a k=true:=by
 unfold cK;have h1:a*k<=2^30*2^12:=Nat.mul_le_mul (Nat.le_of_lt h) hk;have e:(2:Nat)^30*2^12<=2^47:=aL
 rw[aZ,decide_eq_true_iff,decide_eq_true_iff];exact⟨RS,RS⟩
theorem Tf {J:Type}{l:List J}{i:Nat}(h:i<l.length):decide (0<=(i:Int)/\(i:Int)< (l.length:Int))=true:=decide_eq_true ⟨RS,RS⟩
theorem ai4 {J:Type}{c:Bool}{x d:J}:pO c (some x) d=some (bif c then x else d):=by cases c<;>rfl
theorem ai5 {i:Nat}(h:0<i)(hb:i<2^62):wrap .i64 ((i:Int)-(1:Int))=((i-1:Nat):Int):=Ac
theorem Di {J:Type}{l:List J}{i:Nat}(h:i<l.length):∃x,aK l (i:Int)=some x/\x∈l:=⟨l[i],by rw[FB,gG h],lX h⟩
theorem Tg {a b:Nat}(h:a+b<2^62):wrap .i64 ((((a:Nat):Int))+(((b:Nat):Int)))=((a+b:Nat):Int):=Ac
theorem Ti {J:Type}{a k:Nat}{o:Option J}(h:a<2^30)(hk:k<=2^12:=by omega):(bif cK a k then o else none)=o:=by rw[Nv h hk];rfl
theorem ai6 {τ β:Type}{L:Nat->τ->Option β}(Inv:τ->Prop)(mu:τ->Nat)(Post:β->Prop)(h:∀m p,Inv p->(∀p',Inv p'->mu p'<mu p->∃r,L m p'=some r/\Post r)->∃r,L (m+1) p=some r/\Post r):∀m p,Inv p->mu p<m->∃r,L m p=some r/\Post r
 |0,p,_,hm=>RS|m+1,p,hp,hm=>h m p hp fun p' hp' hlt=>ai6 Inv mu Post h m p' hp' RS
theorem kF {J:Type}{P:J->Prop}{c:Bool}{a b:Option J}(ha:c=true->∃r,a=some r/\P r)(hb:c=false->∃r,b=some r/\P r):∃r,(bif c then a else b)=some r/\P r:=by
 cases c
 .exact hb rfl
 .exact ha rfl
theorem fK {J β:Type}{P:β->Prop}{o:Option J}{f:J->Option β}(h:∃x,o=some x/\∃r,f x=some r/\P r):∃r,o.bind f=some r/\P r:=by obtain⟨x,hx,h⟩:=h;rw[hx];exact h
theorem kM {J:Type}{P:J->Prop}{a:J}(h:P a):∃r,some a=some r/\P r:=⟨a,rfl,h⟩
theorem auo {J:Type}{l:List J}{i:Int}(h1:0<=i)(h2:decide (i< (l.length:Int))=true):∃x,aK l i=some x:=by obtain⟨j,rfl⟩:=Int.eq_ofNat_of_zero_le h1;rw[FB];exact⟨l[j]' KP,gG _⟩
theorem aup {x:Int}(h:0<=x):wrap .u64 (Int.tdiv x 128)=wrap .u64 (x/128):=by rw[Int.tdiv_eq_ediv_of_nonneg h]
theorem kG {J:Type}{c:Bool}{a b r:Option J}(h:c=true)(k:a=r):(bif c then a else b)=r:=BA
theorem mP {J:Type}{c:Bool}{a b r:Option J}(h:c=false)(k:b=r):(bif c then a else b)=r:=BA
theorem ko {J:Type}{P:J->Prop}{c:Bool}{o:Option J}(h:c=true)(ho:∃r,o=some r/\P r):∃r,(bif c then o else none)=some r/\P r:=by rw[h];exact ho
theorem ow {i:Int}{n:Nat}(h:0<=i/\i<n):cO i n=true:=decide_eq_true h
theorem Dj {i:Int}{n:Nat}(h:0<=i/\i<=n):kK i n=true:=decide_eq_true h
def rotl (x k:Int):Int:=lT .u32 (nu .u32 x (jE .u64 (wrap .u64 k) 31)) (aH .u32 x (wrap .u64 (32-jE .u64 (wrap .u64 k) 31)))
theorem ai7 (x:Int):0<=wrap .u64 x:=by rw[IntKind.wrap_u64];exact Int.emod_nonneg _ aL
theorem FD (n:Nat)(x k:Int):yE n (x,k)=some (rotl x k):=by rw[atW,decide_eq_true (show (0:Int)<=jE .u64 (wrap .u64 k) 31 from ai7 _),decide_eq_true (ai7 _)];rfl
def Dk (x a b c:Int):Int:=eT .u32 (eT .u32 (rotl x (wrap .i64 (0-a))) (rotl x (wrap .i64 (0-b)))) (rotl x (wrap .i64 (0-c)))
theorem ai8 (n:Nat)(x a b c:Int):Jf n (x,(a,(b,c)))=some (Dk x a b c):=by rw[atY,FD,FD,FD];rfl
theorem vP {i:Int}(h0:0<=i)(h:i<2^62):wrap .i64 (i+(1:Int))=i+1:=Ac
theorem iy {i:Int}(h0: -(2^62)<=i)(h:i<2^62):wrap .i64 i=i:=Ac
theorem FE {a k:Nat}(h:a<2^30)(hk:k<=2^12):cK a k=true:=Nv h hk
theorem auq {x:Int}(h0:0<=x):0<=aH .u64 x 7/\aH .u64 x 7=x/128:=by have e:aH .u64 x 7=x.fdiv (2^7):=rfl;rw[e,Int.fdiv_eq_ediv_of_nonneg x aL];exact⟨Int.ediv_nonneg h0 aL,rfl⟩
theorem aur (k:IntKind)(a b:Int):lT k a b=lT k b a:=by unfold lT;rw[BitVec.or_comm]
theorem aus (k:IntKind)(a b:Int):eT k a b=eT k b a:=by unfold eT;rw[BitVec.xor_comm]
theorem zO (n:Nat)(x k:Int)(h0:0<=k)(h1:k<=32):uH n (x,k)=some (kL x k):=by rw[aug,decide_eq_true h0,cond_true,decide_eq_true (by rw[iy RS RS];omega:(0:Int)<=wrap .i64 (32-k))];rfl
theorem zP {x k j i:Int}(h1:jE .u64 (wrap .u64 k) 31=i)(h2:wrap .u64 (32-i)=j)(h3:wrap .i64 (32-j)=i):rotl x k=kL x j:=by unfold rotl kL;rw[h1,h2,h3,aur]
theorem ai9 (x:Int){a b c:Int}(ha:rotl x (wrap .i64 (0-a))=kL x a)(hb:rotl x (wrap .i64 (0-b))=kL x b)(hc:rotl x (wrap .i64 (0-c))=kL x c):
 Dk x a b c=eT .u32 (eT .u32 (kL x a) (kL x b)) (kL x c):=by
 unfold Dk;rw[ha,hb,hc]
theorem aut (x:Int):Dk x 6 11 25=eT .u32 (eT .u32 (kL x 6) (kL x 11)) (kL x 25):=
 ai9 x (zP (i:=26) aL aL aL) (zP (i:=21) aL aL aL) (zP (i:=7) aL aL aL)
theorem auu (x:Int):Dk x 2 13 22=eT .u32 (eT .u32 (kL x 2) (kL x 13)) (kL x 22):=
 ai9 x (zP (i:=30) aL aL aL) (zP (i:=19) aL aL aL) (zP (i:=10) aL aL aL)
theorem auv (x:Int):rotl x (-7)=kL x 7:=zP (i:=25) aL aL aL
theorem auw (x:Int):rotl x (-18)=kL x 18:=zP (i:=14) aL aL aL
theorem auy (x:Int):rotl x (-17)=kL x 17:=zP (i:=15) aL aL aL
theorem auz (x:Int):rotl x (-19)=kL x 19:=zP (i:=13) aL aL aL
theorem Tj {a b:Int}(k:Nat)(ha0:0<=a)(ha:a% 2^k=0)(ha1:a<2^32)(hb0:0<=b)(hb1:b<2^k)(hk:k<=32):lT .u32 a b=a+b:=by
 obtain⟨c,rfl⟩:∃c:Nat,a=((c*2^k:Nat):Int):=by
  refine⟨(a/2^k).toNat,?_⟩;have h1:=Int.mul_ediv_add_emod a (2^k);rw[ha,Int.add_zero] at h1;have h2:0<=a/2^k:=Int.ediv_nonneg ha0 (Int.pow_nonneg aL);rw[Int.natCast_mul,Gl h2,Int.mul_comm]
  push_cast
  exact h1.symm
 obtain⟨d,rfl⟩:∃d:Nat,b=(d:Int):=⟨b.toNat,(Gl hb0).symm⟩;have hd:d<2^k:=by exact_mod_cast hb1
 have hkk:2^k<=2^32:=Nat.pow_le_pow_right aL hk;have hc:c*2^k<2^32:=by exact_mod_cast ha1
 have hsum:c*2^k|||d=c*2^k+d:=by rw[<-Nat.shiftLeft_eq,Nat.shiftLeft_add_eq_or_of_lt hd]
 have hlt:c*2^k|||d<2^32:=Nat.or_lt_two_pow hc RS
 unfold lT;have e1:(BitVec.ofInt IntKind.u32.bits ((c*2^k:Nat):Int)|||BitVec.ofInt IntKind.u32.bits ((d:Nat):Int)).toNat=c*2^k+d:=by
  rw[BitVec.toNat_or];simp only[BitVec.ofInt_natCast,BitVec.toNat_ofNat];show (c*2^k)% 2^32|||d% 2^32=_
  rw[Ee hc,Ee RS,hsum]
 rw[e1,IntKind.wrap_u32];have:c*2^k+d<2^32:=RS
 omega
theorem auA {n:Nat}{v w:Vec n}(h:v.l=w.l):v=w:=by cases v;cases w;cases h;rfl
theorem at_set {n:Nat}(v:Vec n){i:Int}(y:Int)(h0:0<=i)(h1:i<n):(v.set i y).at' i=y:=by show (v.l.set i.toNat y).getD i.toNat 0=y;rw[mH,List.getElem?_set_self (by rw[v.h];omega)];rfl
theorem auB {n:Nat}(v:Vec n){i j:Int}(y:Int)(h0:0<=i)(h1:0<=j)(h:i≠j):(v.set i y).at' j=v.at' j:=by show (v.l.set i.toNat y).getD j.toNat 0=v.l.getD j.toNat 0;rw[mH,List.getElem?_set_ne RS,mH]
theorem ZH {n:Nat}(v:Vec n)(i a b:Int):(v.set i a).set i b=v.set i b:=auA (List.set_set ..)
def kT (l:List Int):Prop:=∀x∈l,0<=x/\x<256
theorem Tk {l:List Int}(h:kT l)(i:Nat):0<=l.getD i 0/\l.getD i 0<256:=by
 rw[mH];cases hi:l[i]? with
 |none=>exact⟨yV _,aL⟩|some x=>exact h x (uU hi)
theorem wrap32 {x:Int}(h0:0<=x)(h1:x<2^32):wrap .u32 x=x:=by rw[IntKind.wrap_u32];omega
theorem Tm {x:Int}(k:Nat)(h0:0<=x)(h1:x*2^k<2^32)(hk:k<=32):nu .u32 x (k:Nat)=x*2^k:=by
 unfold nu;have:min (((k:Nat):Int)).toNat IntKind.u32.bits=k:=by show min (((k:Nat):Int)).toNat 32=k;rw[Int.toNat_natCast];omega
 rw[this,wrap32 (Int.mul_nonneg h0 (Int.pow_nonneg aL)) h1]
theorem auC {a b c d:Int}(ha:0<=a/\a<256)(hb:0<=b/\b<256)(hc:0<=c/\c<256)(hd:0<=d/\d<256):Ym a b c d=a*2^24+b*2^16+c*2^8+d:=by unfold Ym;rw[wrap32 RS RS,wrap32 RS RS,wrap32 RS RS,wrap32 RS RS];rw[show nu .u32 a 24=a*2^24 from Tm 24 RS RS aL,show nu .u32 b 16=b*2^16 from Tm 16 RS RS aL,show nu .u32 c 8=c*2^8 from Tm 8 RS RS aL];have h1:lT .u32 (a*2^24) (b*2^16)=a*2^24+b*2^16:=Tj 24 RS RS RS RS RS aL;have h2:lT .u32 (a*2^24+b*2^16) (c*2^8)=a*2^24+b*2^16+c*2^8:=Tj 16 RS RS RS RS RS aL;have h3:lT .u32 (a*2^24+b*2^16+c*2^8) d=a*2^24+b*2^16+c*2^8+d:=Tj 8 RS RS RS RS RS aL;rw[h1,h2,h3]
theorem Tn {x d:Int}(h0:0<=x)(h1:x<2^24)(hd:0<=d/\d<256):lT .u32 (nu .u32 x 8) (wrap .u32 d)=x*256+d:=by rw[wrap32 RS RS,show nu .u32 x 8=x*2^8 from Tm 8 RS RS aL,Tj 8 RS RS RS RS RS aL];omega
theorem auD {n m:Nat}{x1:List Int}{i:Int}(h:x1.length=64)(h0:0<=i)(h1:i<16)(hb:kT x1)(v:Vec 64)(hv:v.at' i=0):Fy n x1 i (m+5) (0,v)=some ((),v.set i (Yn x1 i)):=by
 have hl:List.drop (Int.toNat (wrap .i64 (4*i))) (List.take (Int.toNat (wrap .i64 (wrap .i64 (4*i)+4))) x1)=[x1.getD (4*i.toNat) 0,x1.getD (4*i.toNat+1) 0,x1.getD (4*i.toNat+2) 0,x1.getD (4*i.toNat+3) 0]:=by
  rw[iy (i:=4*i) RS RS,iy RS RS];apply List.ext_getElem?;intro j;rw[List.getElem?_drop];by_cases hj:j<4
  .rw[List.getElem?_take_of_lt RS];have e:(4*i).toNat+j=4*i.toNat+j:=RS
   rw[e];have hg:∀k,k<64->x1[k]? =some (x1.getD k 0):=fun k hk=>by rw[mH,gG RS];rfl
   rw[hg _ RS];rcases j with _|_|_|_|j;all_goals first| (exact absurd hj RS)|rfl
  .rw[List.getElem?_eq_none oD,List.getElem?_eq_none dP]
 have ba:=Tk hb (4*i.toNat);have bb:=Tk hb (4*i.toNat+1);have bc:=Tk hb (4*i.toNat+2);have bd:=Tk hb (4*i.toNat+3);unfold Yn;generalize x1.getD (4*i.toNat) 0=a at hl ba⊢;generalize x1.getD (4*i.toNat+1) 0=b at hl bb⊢;generalize x1.getD (4*i.toNat+2) 0=c at hl bc⊢;generalize x1.getD (4*i.toNat+3) 0=d at hl bd⊢;have hin:cO i 64=true:=ow ⟨h0,RS⟩;have st:∀(m:Nat)(x4:Int)(x5:Vec 64)(y:Int),aK [a,b,c,d] x4=some y->0<=x4->x4<4->Fy n x1 i (m+1) (x4,x5)=Fy n x1 i m (x4+1,x5.set i (lT .u32 (nu .u32 (x5.at' i) 8) (wrap .u32 y))):=by intro m x4 x5 y hy k0 k1;rw[aiJ,hl,decide_eq_true (show x4< (([a,b,c,d]:List Int).length:Nat) by simp;omega),hy,hin,vP k0 RS];rfl
 rw[st (m+4) 0 v a rfl aL aL,st (m+3) (0+1) _ b rfl aL aL,st (m+2) (0+1+1) _ c rfl aL aL,st (m+1) (0+1+1+1) _ d rfl aL aL];rw[aiJ,hl];rw[hv,at_set _ _ h0 (by show i<64;omega),at_set _ _ h0 (by show i<64;omega),at_set _ _ h0 (by show i<64;omega),ZH,ZH,ZH];have e1:=Tn (x:=0) (d:=a) aL aL ba;rw[e1,Tn RS RS bb,Tn RS RS bc,Tn RS RS bd,auC ba bb bc bd];have e2:(((0*256+a)*256+b)*256+c)*256+d=a*2^24+b*2^16+c*2^8+d:=RS
 rw[e2];rfl
theorem hS2 {n:Nat}{x:List Int}:∀(k:Nat)(i:Int)(w:Vec 64)(m:Nat),i+k=64->16<=i->k<m->Fz n x m (i,w)=some ((),oq SC k i w):=by
 intro k;induction k with
 |zero=>intro i w m hi h16 hm;obtain⟨m,rfl⟩:∃q,m=q+1:=⟨m-1,RS⟩;rw[ZC,decide_eq_false RS];rfl
 |succ k ih=>intro i w m hi h16 hm;obtain⟨m,rfl⟩:∃q,m=q+1:=⟨m-1,RS⟩;rw[ZC,decide_eq_true (show i<64 by omega),decide_eq_false (show¬i<16 by omega),cond_true,cond_false];rw[iy (i:=i-15) RS RS,iy (i:=i-2) RS RS,iy (i:=i-16) RS RS,iy (i:=i-7) RS RS,vP RS RS];rw[ow (i:=i-15) ⟨RS,RS⟩,ow (i:=i-2) ⟨RS,RS⟩,ow (i:=i-16) ⟨RS,RS⟩,ow (i:=i-7) ⟨RS,RS⟩,ow (i:=i) ⟨RS,RS⟩];rw[FD,FD,FD,FD,auv,auw,auy,auz];exact ih (i+1) _ m RS RS RS
theorem hS1 {n:Nat}{x:List Int}(hx:x.length=64)(hb:kT x)(hn:60<n):∀(k:Nat)(i:Int)(w:Vec 64)(m:Nat),i+k=16->0<=i->(∀j,i<=j->w.at' j=0)->k+48<m->Fz n x m (i,w)=some ((),oq SC 48 16 (oq (SE x) k i w)):=by
 intro k;induction k with
 |zero=>
  intro i w m hi h0 hw hm;obtain rfl:i=16:=RS
  exact hS2 48 16 w m aL aL RS
 |succ k ih=>intro i w m hi h0 hw hm;obtain⟨m,rfl⟩:∃q,m=q+1:=⟨m-1,RS⟩;rw[ZC,decide_eq_true (show i<64 by omega),decide_eq_true (show i<16 by omega),cond_true,cond_true];rw[iy (i:=4*i) RS RS,iy (i:=4*i+4) RS RS,vP RS RS];rw[Dj (i:=4*i+4) ⟨RS,RS⟩,Dj (i:=4*i) ⟨RS,RS⟩,Bool.and_self,cond_true];obtain⟨q,rfl⟩:∃q,n=q+5:=⟨n-5,RS⟩;rw[auD hx h0 RS hb w (hw i (yV _))];exact ih (i+1) _ m RS RS (fun j hj=>by rw[auB _ _ h0 RS RS];exact hw j RS) RS
theorem auE {n:Nat}{x:List Int}(hx:x.length=64)(hb:kT x)(hn:70<n):M5 n x=some (Fu x):=by rw[atX];have h:=hS1 (n:=n) hx hb RS 16 0 (Vec.rep 64 0) n aL aL (fun j _=>by show (List.replicate 64 (0:Int)).getD j.toNat 0=0;rw[mH,List.getElem?_replicate];split<;>rfl) RS;rw[h];rfl
theorem auF {n:Nat}{x:List Int}(hx:x.length=64):∀(k:Nat)(i:Int)(w:Vec 64)(m:Nat),i+k=16->0<=i->k<m->Nt n x m (i,w)=some ((),oq (SE x) k i w):=by
 intro k;induction k with
 |zero=>intro i w m hi h0 hm;obtain⟨m,rfl⟩:∃q,m=q+1:=⟨m-1,RS⟩;rw[aiW,decide_eq_false RS];rfl
 |succ k ih=>
  intro i w m hi h0 hm;obtain⟨m,rfl⟩:∃q,m=q+1:=⟨m-1,RS⟩;have hg:∀k:Nat,k<64->aK x ((k:Nat):Int)=some (x.getD k 0):=fun k hk=>by unfold aK;rw[if_pos ⟨RS,RS⟩,Int.toNat_natCast,mH,gG RS];rfl
  rw[aiW,decide_eq_true (show i<16 by omega),cond_true];rw[iy (i:=4*i) RS RS,iy (i:=4*i+1) RS RS,iy (i:=4*i+2) RS RS,iy (i:=4*i+3) RS RS,vP RS RS];rw[show (4*i:Int)=((4*i.toNat:Nat):Int) by omega,hg _ RS,show ((4*i.toNat:Nat):Int)+1=((4*i.toNat+1:Nat):Int) by omega,hg _ RS,show ((4*i.toNat:Nat):Int)+2=((4*i.toNat+2:Nat):Int) by omega,hg _ RS,show ((4*i.toNat:Nat):Int)+3=((4*i.toNat+3:Nat):Int) by omega,hg _ RS];rw[ow (i:=i) ⟨RS,RS⟩];exact ih (i+1) _ m RS RS RS
theorem auG {n:Nat}:∀(k:Nat)(i:Int)(w:Vec 64)(m:Nat),i+k=64->16<=i->k<m->Jz n m (i,w)=some ((),oq SC k i w):=by
 intro k;induction k with
 |zero=>intro i w m hi h16 hm;obtain⟨m,rfl⟩:∃q,m=q+1:=⟨m-1,RS⟩;rw[aiX,decide_eq_false RS];rfl
 |succ k ih=>intro i w m hi h16 hm;obtain⟨m,rfl⟩:∃q,m=q+1:=⟨m-1,RS⟩;rw[aiX,decide_eq_true (show i<64 by omega),cond_true];rw[iy (i:=i-15) RS RS,iy (i:=i-2) RS RS,iy (i:=i-16) RS RS,iy (i:=i-7) RS RS,vP RS RS];rw[ow (i:=i-15) ⟨RS,RS⟩,ow (i:=i-2) ⟨RS,RS⟩,ow (i:=i-16) ⟨RS,RS⟩,ow (i:=i-7) ⟨RS,RS⟩,ow (i:=i) ⟨RS,RS⟩];rw[zO _ _ _ aL aL,zO _ _ _ aL aL,zO _ _ _ aL aL,zO _ _ _ aL aL];exact ih (i+1) _ m RS RS RS
theorem auH {n:Nat}{x:List Int}(hx:x.length=64)(hn:70<n):QQ n x=some (Fu x):=by rw[auh,auF hx 16 0 (Vec.rep 64 0) n aL aL RS];show (Jz n n (16,oq (SE x) 16 0 (Vec.rep 64 0))).bind _=_;rw[auG 48 16 _ n aL aL RS];rfl
def aja (v e:Vec 4)(s:Vec 8)(i:Int):Vec 8:=(s.set i (wrap .u32 (s.at' i+v.at' i))).set (i+4) (wrap .u32 ((s.set i (wrap .u32 (s.at' i+v.at' i))).at' (i+4)+e.at' i))
def cat (v e:Vec 4):Vec 8:=Vec.lit 8 (v.l++e.l)
theorem Tp (v:Vec 4):∃a b c d,v=Vec.lit 4 [a,b,c,d]:=by
 obtain⟨l,h⟩:=v
 match l,h with
 | [a,b,c,d],_=>exact⟨a,b,c,d,rfl⟩
theorem ajb (v:Vec 8):∃a b c d e f g h,v=Vec.lit 8 [a,b,c,d,e,f,g,h]:=by
 obtain⟨l,hl⟩:=v
 match l,hl with
 | [a,b,c,d,e,f,g,h],_=>exact⟨a,b,c,d,e,f,g,h,rfl⟩
theorem add_eq (v e:Vec 4)(s:Vec 8):oq (aja v e) 4 0 s=oq (Yo (cat v e)) 8 0 s:=by obtain⟨a,b,c,d,rfl⟩:=Tp v;obtain⟨a',b',c',d',rfl⟩:=Tp e;obtain⟨s0,s1,s2,s3,s4,s5,s6,s7,rfl⟩:=ajb s;kernel_rfl
theorem auI (s:Vec 8):cat (s.slc 0 4) (s.slc 4 4)=s:=by obtain⟨s0,s1,s2,s3,s4,s5,s6,s7,rfl⟩:=ajb s;kernel_rfl
theorem auJ {n:Nat}{r2:List Int}{x3:Int}{x4:Vec 8}{w:Vec 64}:∀(k:Nat)(i:Int)(s:Vec 8)(m:Nat),i+k=64->0<=i->k<m->JA n r2 x3 x4 w m (i,s)=some ((),oq (MU w) k i s):=by
 intro k;induction k with
 |zero=>intro i s m hi h0 hm;obtain⟨m,rfl⟩:∃q,m=q+1:=⟨m-1,RS⟩;rw[aiY,decide_eq_false RS];rfl
 |succ k ih=>intro i s m hi h0 hm;obtain⟨m,rfl⟩:∃q,m=q+1:=⟨m-1,RS⟩;rw[aiY,decide_eq_true (show i<64 by omega),cond_true,ow (i:=i) (n:=64) ⟨RS,RS⟩,vP RS RS];rw[zO _ _ _ aL aL,zO _ _ _ aL aL,zO _ _ _ aL aL,zO _ _ _ aL aL,zO _ _ _ aL aL,zO _ _ _ aL aL];exact ih (i+1) _ m RS RS RS
theorem auK (w:Vec 64)(v e:Vec 4)(i:Int):cat (Vec.lit 4 [wrap .u32 (wrap .u32 (wrap .u32 (wrap .u32 (wrap .u32 (e.at' 3+Dk (e.at' 0) 6 11 25)+eT .u32 (jE .u32 (e.at' 0) (e.at' 1)) (jE .u32 (eT .u32 4294967295 (e.at' 0)) (e.at' 2)))+zH.at' i)+w.at' i)+wrap .u32 (Dk (v.at' 0) 2 13 22+eT .u32 (eT .u32 (jE .u32 (v.at' 0) (v.at' 1)) (jE .u32 (v.at' 0) (v.at' 2))) (jE .u32 (v.at' 1) (v.at' 2)))),v.at' 0,v.at' 1,v.at' 2]) (Vec.lit 4 [wrap .u32 (v.at' 3+wrap .u32 (wrap .u32 (wrap .u32 (wrap .u32 (e.at' 3+Dk (e.at' 0) 6 11 25)+eT .u32 (jE .u32 (e.at' 0) (e.at' 1)) (jE .u32 (eT .u32 4294967295 (e.at' 0)) (e.at' 2)))+zH.at' i)+w.at' i)),e.at' 0,e.at' 1,e.at' 2])=MU w (cat v e) i:=by
 obtain⟨a,b,c,d,rfl⟩:=Tp v;obtain⟨a',b',c',d',rfl⟩:=Tp e;rw[aut,auu,aus IntKind.u32 4294967295];rfl
theorem hR {n:Nat}{x1:Vec 8}{w:Vec 64}:∀(k:Nat)(i:Int)(v e:Vec 4)(m:Nat),i+k=64->0<=i->k<m->∃v' e',Jq n x1 w m (i,(v,e))=some ((),(v',e'))/\cat v' e'=oq (MU w) k i (cat v e):=by
 intro k;induction k with
 |zero=>intro i v e m hi h0 hm;obtain⟨m,rfl⟩:∃q,m=q+1:=⟨m-1,RS⟩;refine⟨v,e,?_,rfl⟩;rw[aiK,decide_eq_false RS];rfl
 |succ k ih=>intro i v e m hi h0 hm;obtain⟨m,rfl⟩:∃q,m=q+1:=⟨m-1,RS⟩;obtain⟨v',e',h1,h2⟩:=ih (i+1) _ _ m RS RS RS;rw[auK] at h2;refine⟨v',e',?_,h2⟩;rw[aiK,decide_eq_true (show i<64 by omega),cond_true,ow (i:=i) (n:=64) ⟨RS,RS⟩,vP RS RS,ai8,ai8];exact h1
theorem auL {n:Nat}{r2:List Int}{x3:Int}{v:Vec 8}:∀(k:Nat)(i:Int)(s:Vec 8)(m:Nat),i+k=8->0<=i->k<m->JB n r2 x3 ((),v) m (i,s)=some ((),oq (Yo v) k i s):=by
 intro k;induction k with
 |zero=>intro i s m hi h0 hm;obtain⟨m,rfl⟩:∃q,m=q+1:=⟨m-1,RS⟩;rw[aiZ,decide_eq_false RS];rfl
 |succ k ih=>intro i s m hi h0 hm;obtain⟨m,rfl⟩:∃q,m=q+1:=⟨m-1,RS⟩;rw[aiZ,decide_eq_true (show i<8 by omega),cond_true,ow (i:=i) (n:=8) ⟨RS,RS⟩,vP RS RS];exact ih (i+1) _ m RS RS RS
theorem hA {n:Nat}{v e:Vec 4}:∀(k:Nat)(i:Int)(s:Vec 8)(m:Nat),i+k=4->0<=i->k<m->Jr n ((),(v,e)) m (i,s)=some ((),oq (aja v e) k i s):=by
 intro k;induction k with
 |zero=>intro i s m hi h0 hm;obtain⟨m,rfl⟩:∃q,m=q+1:=⟨m-1,RS⟩;rw[aiL,decide_eq_false RS];rfl
 |succ k ih=>intro i s m hi h0 hm;obtain⟨m,rfl⟩:∃q,m=q+1:=⟨m-1,RS⟩;rw[aiL,decide_eq_true (show i<4 by omega),cond_true,ow (i:=i) (n:=8) ⟨RS,RS⟩,ow (i:=i) (n:=4) ⟨RS,RS⟩,vP RS RS,iy (i:=i+4) RS RS,ow (i:=i+4) (n:=8) ⟨RS,RS⟩];exact ih (i+1) _ m RS RS RS
theorem hcomp {n:Nat}{h:Vec 8}{x:List Int}(hx:x.length=64)(hb:kT x)(hn:70<n):M7 n (h,x)=some (zI h x):=by rw[atZ,auE hx hb hn];obtain⟨v',e',h1,h2⟩:=hR (n:=n) (x1:=h) (w:=Fu x) 64 0 (h.slc 0 4) (h.slc 4 4) n aL aL RS;show ((Jq n h (Fu x) n (0,(h.slc 0 4,h.slc 4 4))).bind _)=_;rw[h1];show ((Jr n ((),(v',e')) n (0,h)).bind _)=_;rw[hA 4 0 h n aL aL RS,add_eq,h2,auI];rfl
theorem auM:∀(q:Nat)(h:Vec 8)(d b:List Int),d.length=64*q->b.length=64->AV (q+1) h (d++b)=zI (AV q h d) b:=by
 intro q;induction q with
 |zero=>intro h d b hd hb;obtain rfl:d=[]:=lF RS;show zI h (b.take 64)=zI h b;rw[qZ RS]
 |succ q ih=>intro h d b hd hb;show AV (q+1) (zI h ((d++b).take 64)) ((d++b).drop 64)=zI (AV q (zI h (d.take 64)) (d.drop 64)) b;rw[Ej RS,KX RS];exact ih _ _ _ pq hb
def mQ (l:List Int):List UInt8:=l.map fun n=>UInt8.ofNat n.toNat
theorem ajc (l:List UInt8):kT (qp l):=by intro x hx;obtain⟨b,_,rfl⟩:=tH.1 hx;have:=UInt8.toNat_lt b;omega
theorem ZI {l:List Int}(h:kT l):qp (mQ l)=l:=by
 unfold qp mQ;rw[yT]
 conv=>rhs;rw[<-List.map_id l]
 apply BI;intro x hx;obtain⟨h0,h1⟩:=h x hx;show ((UInt8.ofNat x.toNat).toNat:Int)=x;rw[UInt8.toNat_ofNat_of_lt' (show x.toNat<256 by omega)];omega
theorem ajd (l:List UInt8):(qp l).length=l.length:=eU ..
theorem zQ (l:List Int):(mQ l).length=l.length:=eU ..
theorem Bb {l m:List Int}(h:kT l)(g:kT m):kT (l++m):=fun x hx=>(qB.1 hx).elim (h x) (g x)
theorem auN {l m:List Int}(h:kT (l++m)):kT m:=fun x hx=>h x (BJ _ hx)
def zR (bs:List Int)(h:Vec 8)(v:Vec 64)(c:Int):Prop:=
 ∃q done tail,bs=done++tail/\done.length=64*q/\tail.length<64/\h=AV q C8 done/\v.l.take tail.length=tail/\c=(bs.length:Int)/\kT bs
theorem MG {n:Nat}{l:List Int}(h:l.length=n):(Vec.lit n l).l=l:=by unfold Vec.lit;rw[dif_pos h]
theorem Tq {x:Int}(h0:0<=x)(h1:x<2^62):wrap .u64 x=x:=by rw[IntKind.wrap_u64];omega
theorem hAdd {n:Nat}(hn:70<n):∀(k:Nat)(text:List UInt8)(bs:List Int)(h:Vec 8)(v:Vec 64)(c:Int)(m:Nat),text.length<=k->zR bs h v c->bs.length+text.length<2^61->k<m->
 ∃h' v' c',Js n m (text,(h,(v,c)))=some ((),(h',(v',c')))/\zR (bs++qp text) h' v' c':=by
 intro k;induction k with
 |zero=>intro text bs h v c m hk hs hl hm;obtain⟨m,rfl⟩:∃q,m=q+1:=⟨m-1,RS⟩;obtain rfl:text=[]:=lF RS;refine⟨h,v,c,?_,by simpa [qp] using hs⟩;rw[ZE];rfl
 |succ k ih=>
  intro text bs h v c m hk hs hl hm;obtain⟨m,rfl⟩:∃q,m=q+1:=⟨m-1,RS⟩;by_cases ht:text=[]
  .subst ht;refine⟨h,v,c,?_,by simpa [qp] using hs⟩;rw[ZE];rfl
  .obtain⟨q,done,tail,hb,hd,htl,hh,hv,hc,hB⟩:=hs;have hpos:0<text.length:=uS.2 ht;have hne:(!(text==[]))=true:=by cases text with
    |nil=>exact absurd rfl ht|cons a l=>rfl
   have hbl:bs.length=64*q+tail.length:=by rw[hb,iP,hd]
   have auO:Int.tmod c 64=(tail.length:Int):=by rw[hc,Int.tmod_eq_emod_of_nonneg RS];omega
   rw[ZE,hne,cond_true,auO,iy (i:=(tail.length:Int)) RS RS];have hcut:List.take (Int.toNat (64-(tail.length:Int))) (List.map (fun b:UInt8=>(b.toNat:Int)) text)=qp (text.take (64-tail.length)):=by unfold qp;rw[show Int.toNat (64-(tail.length:Int))=64-tail.length by omega,List.map_take]
   rw[hcut];generalize hj:64-tail.length=j;have hlen:(qp (text.take j)).length=min j text.length:=by rw[ajd,jV]
   have hsplit:qp text=qp (text.take j)++qp (text.drop j):=by unfold qp;rw[<-pF,qz]
   have hdrop:List.drop (Int.toNat (((qp (text.take j)).length:Nat):Int)) text=text.drop j:=by
    rw[Int.toNat_natCast,hlen];by_cases h:j<=text.length
    .rw[wC h]
    .rw[Nat.min_eq_right RS,List.drop_length,Gm RS]
   generalize ht':qp (text.take j)=t at hlen hsplit hdrop⊢;have ZJ:kT t:=ht'▸ajc _;have hlit:(v.wP (tail.length:Int) t).l=tail++t++v.l.drop (tail.length+t.length):=by show (Vec.lit 64 (v.l.take (tail.length:Int).toNat++t++v.l.drop ((tail.length:Int).toNat+t.length))).l=_;rw[Int.toNat_natCast,MG (by rw[hv,iP,iP,nV,v.h];omega),hv]
   have g1:qK 64 (some (tail.length:Int)) none=true:=decide_eq_true ⟨RS,RS⟩;have g2:kK (((t.length:Nat)):Int) text.length=true:=Dj ⟨RS,RS⟩;rw[show (!((64:Int)==0))=true from rfl,cond_true,g1,cond_true,g2,cond_true,iy RS RS];have auP:wrap .u64 (c+wrap .u64 (t.length:Int))=(((bs++t).length:Nat):Int):=by rw[Tq (x:=(t.length:Int)) RS RS,Tq RS RS,hc,iP];omega
   rw[auP,hdrop];have hrl:(text.drop j).length<=k:=pq
   have hnl:(bs++t).length+(text.drop j).length<2^61:=by rw[iP,nV];omega
   cases hfull:((tail.length:Int)+(t.length:Int)==64) with
   |true=>
    have hf:tail.length+t.length=64:=(by have:=eq_of_beq hfull;omega);have hblk:(v.wP (tail.length:Int) t).l=tail++t:=(by rw[hlit,Gm (by rw[v.h];omega),iV]);have LJ:kT (tail++t):=Bb (auN (hb▸hB)) ZJ;rw[cond_true,hblk,hcomp rW LJ hn];have hs':zR (bs++t) (zI h (tail++t)) (v.wP (tail.length:Int) t) (((bs++t).length:Nat):Int):=by
     refine⟨q+1,done++(tail++t),[],?_,?_,aL,?_,rfl,rfl,Bb hB ZJ⟩
     .rw[hb,iV,eZ]
     .rw[iP,iP,hd];omega
     .rw[auM q C8 done (tail++t) hd rW,hh]
    obtain⟨h',v',c',e1,e2⟩:=ih _ _ _ _ _ m hrl hs' hnl RS;refine⟨h',v',c',e1,?_⟩;rw[hsplit,<-eZ];exact e2
   |false=>
    have hf:tail.length+t.length≠64:=fun e=>by have:((tail.length:Int)+(t.length:Int)==64)=true:=(by rw[beq_iff_eq];omega);rw[this] at hfull;cases hfull
    rw[cond_false];have hs':zR (bs++t) h (v.wP (tail.length:Int) t) (((bs++t).length:Nat):Int):=by
     refine⟨q,done,tail++t,?_,hd,?_,hh,?_,rfl,Bb hB ZJ⟩
     .rw[hb,eZ]
     .rw[iP];omega
     .rw[hlit,Ej (mF _),List.take_length]
    obtain⟨h',v',c',e1,e2⟩:=ih _ _ _ _ _ m hrl hs' hnl RS;refine⟨h',v',c',e1,?_⟩;rw[hsplit,<-eZ];exact e2
theorem ZK {n:Nat}{text:List UInt8}{bs:List Int}{h:Vec 8}{v:Vec 64}{c:Int}(hn:70<n)(hs:zR bs h v c)(hl:bs.length+text.length<2^61)(hm:text.length<n):
 ∃h' v' c',Dc n ((h,(v,c)),text)=some (h',(v',c'))/\zR (bs++qp text) h' v' c':=by
 obtain⟨h',v',c',e1,e2⟩:=hAdd hn text.length text bs h v c n (mF _) hs hl hm;refine⟨h',v',c',?_,e2⟩;rw[at0,e1];rfl
theorem aje (c:Int):∀(k:Nat)(i:Int),(AX c k i).length=k
 |0,_=>rfl|k+1,i=>by rw[AX,List.length_cons,aje c k]
theorem ZL (x:Int):0<=wrap .u8 x/\wrap .u8 x<256:=by rw[IntKind.wrap_u8];exact⟨Int.emod_nonneg _ aL,Int.emod_lt_of_pos _ aL⟩
theorem ajf (c:Int):∀(k:Nat)(i:Int),kT (AX c k i)
 |0,_=>fun x hx=>Ed
 |k+1,i=>fun x hx=>by
  rcases iC.1 hx with rfl|hx
  .exact ZL _
  .exact ajf c k _ x hx
theorem lU {a k:Nat}(h:a<2^30)(hk:k<=2^12):cK a k=true:=FE h hk
theorem auQ {n:Nat}{x1:Vec 8}{x2:Vec 64}{c:Nat}(hc:c<2^29):∀(z:Nat)(p:List Int)(m:Nat),(c+p.length+z)% 64=56->z<64->p.length+z<2^20->z<m->Nn n x1 x2 (c:Nat) m p=some (p++List.replicate z 0):=by
 intro z;induction z with
 |zero=>
  intro p m hz h64 hb hm;obtain⟨m,rfl⟩:∃q,m=q+1:=⟨m-1,RS⟩;rw[aiN,iy (i:=((c:Nat):Int)) RS RS,iy RS RS,Int.tmod_eq_emod_of_nonneg RS];have:(((c:Nat):Int)+(p.length:Int))% 64=56:=RS
  rw[this];simp
 |succ z ih=>
  intro p m hz h64 hb hm;obtain⟨m,rfl⟩:∃q,m=q+1:=⟨m-1,RS⟩;rw[aiN,iy (i:=((c:Nat):Int)) RS RS,iy RS RS,Int.tmod_eq_emod_of_nonneg RS];have:((((c:Nat):Int)+(p.length:Int))% 64 !=56)=true:=by rw[bne_iff_ne];omega
  rw[this,show (!((64:Int)==0))=true from rfl,cond_true,cond_true,lU dP aL,cond_true,ih (p++[0]) m wh RS wh RS,eZ];rfl
theorem auR {n:Nat}{x1:List Int}:∀(z:Nat)(p:List Int)(m:Nat),(p.length+z)% 64=56->z<64->p.length+z<2^29->z<m->Ns n x1 m p=some (p++List.replicate z 0):=by
 intro z;induction z with
 |zero=>
  intro p m hz h64 hb hm;obtain⟨m,rfl⟩:∃q,m=q+1:=⟨m-1,RS⟩;rw[aiU,Int.tmod_eq_emod_of_nonneg RS];have:(p.length:Int)% 64=56:=RS
  rw[this];simp
 |succ z ih=>
  intro p m hz h64 hb hm;obtain⟨m,rfl⟩:∃q,m=q+1:=⟨m-1,RS⟩;rw[aiU,Int.tmod_eq_emod_of_nonneg RS];have:((p.length:Int)% 64 !=56)=true:=by rw[bne_iff_ne];omega
  rw[this,show (!((64:Int)==0))=true from rfl,cond_true,cond_true,lU dP aL,cond_true,ih (p++[0]) m wh RS wh RS,eZ];rfl
theorem hLen {n:Nat}{x1:Vec 8}{x2:Vec 64}{c:Int}:∀(k:Nat)(i:Int)(p:List Int)(m:Nat),i+k=8->0<=i->p.length+k<2^29->k<m->Ju n x1 x2 c m (p,i)=some (p++AX c k i):=by
 intro k;induction k with
 |zero=>intro i p m hi h0 hb hm;obtain⟨m,rfl⟩:∃q,m=q+1:=⟨m-1,RS⟩;rw[aiO,decide_eq_false RS,AX,iV];rfl
 |succ k ih=>intro i p m hi h0 hb hm;obtain⟨m,rfl⟩:∃q,m=q+1:=⟨m-1,RS⟩;rw[aiO,decide_eq_true (show i<8 by omega),cond_true];rw[decide_eq_true (show (0:Int)<=wrap .i64 (56-wrap .i64 (8*i)) by rw[iy (i:=8*i) RS RS,iy RS RS];omega),cond_true,lU dP aL,cond_true,vP h0 RS];have:=ih (i+1) (p++[Yp c i]) m RS RS wh RS;rw[eZ] at this;exact this
theorem auS {n:Nat}{x1:List Int}(hx:x1.length<2^29):∀(k:Nat)(i:Int)(p:List Int)(m:Nat),i+k=8->0<=i->p.length+k<2^30->k<m->Jy n x1 m (p,i)=some (p++AX (x1.length:Nat) k i):=by
 intro k;induction k with
 |zero=>intro i p m hi h0 hb hm;obtain⟨m,rfl⟩:∃q,m=q+1:=⟨m-1,RS⟩;rw[aiV,decide_eq_false RS,AX,iV];rfl
 |succ k ih=>intro i p m hi h0 hb hm;obtain⟨m,rfl⟩:∃q,m=q+1:=⟨m-1,RS⟩;rw[aiV,decide_eq_true (show i<8 by omega),cond_true];rw[decide_eq_true (show (0:Int)<=wrap .i64 (56-wrap .i64 (8*i)) by rw[iy (i:=8*i) RS RS,iy RS RS];omega),cond_true,lU dP aL,cond_true,vP h0 RS,Tq (x:=(x1.length:Int)) RS RS];have:=ih (i+1) (p++[Yp (x1.length:Nat) i]) m RS RS wh RS;rw[eZ] at this;exact this
theorem ZM (c:Nat):(c+1+zpad c)% 64=56/\zpad c<64:=by unfold zpad;omega
theorem Tt (c:Nat):(w9 c).length=1+zpad c+8:=by unfold w9;simp only[iP,List.length_singleton,List.length_replicate,aje]
theorem ajg (c:Nat):kT (w9 c):=by
 refine Bb (Bb ?_ ?_) (ajf _ _ _)
 .intro x hx;rw[iZ.1 hx];decide
 .intro x hx;rw[(List.mem_replicate.1 hx).2];decide
theorem auT {n:Nat}{b:List Int}(hb:b.length<2^28)(hn:100<n):QP n b=some (b++w9 b.length):=by obtain⟨h1,h2⟩:=ZM b.length;rw[auf,lU RS aL,cond_true,lU dP aL,cond_true];rw[List.nil_append,auR (zpad b.length) (b++[128]) n (by rw[iP,List.length_singleton];exact h1) h2 wh RS];show (Jy n b n (b++[128]++List.replicate (zpad b.length) 0,0)).bind _=_;rw[auS RS 8 0 _ n aL aL (by simp only[iP,List.length_singleton,List.length_replicate];omega) RS];unfold w9;simp only[Option.bind_some,eZ]
theorem auU {n:Nat}{r:List Int}(hB:kT r)(hr:r.length<2^29)(hn:100<n):∀(k j:Nat)(h:Vec 8)(m:Nat),j+64*k=r.length->k<m->JC n r m ((j:Nat),h)=some ((),AV k h (r.drop j)):=by
 intro k;induction k with
 |zero=>intro j h m hj hm;obtain⟨m,rfl⟩:∃q,m=q+1:=⟨m-1,RS⟩;rw[ai0,decide_eq_false RS];rfl
 |succ k ih=>
  intro j h m hj hm;obtain⟨m,rfl⟩:∃q,m=q+1:=⟨m-1,RS⟩;rw[ai0,decide_eq_true RS,cond_true,iy (i:=((j:Nat):Int)+64) RS RS,Dj (i:=((j:Nat):Int)+64) ⟨RS,RS⟩,Dj (i:=((j:Nat):Int)) ⟨RS,RS⟩,Bool.and_self,cond_true];have hcut:List.drop (Int.toNat ((j:Nat):Int)) (List.take (Int.toNat (((j:Nat):Int)+64)) r)=(r.drop j).take 64:=by rw[Int.toNat_natCast,show Int.toNat (((j:Nat):Int)+64)=j+64 by omega,List.drop_take,Ag]
  have hw:=auH (n:=n) (x:=(r.drop j).take 64) (by rw[jV,nV];omega) RS;rw[<-hcut] at hw;refine bs hw ?_;rw[hcut];show ((JA n r (j:Nat) h (Fu ((r.drop j).take 64)) n (0,h)).bind _)=_;rw[auJ 64 0 h n aL aL RS];show ((JB n r (j:Nat) ((),oq (MU (Fu ((r.drop j).take 64))) 64 0 h) n (0,h)).bind _)=_;rw[auL 8 0 h n aL aL RS];have:=ih (j+64) (zI h ((r.drop j).take 64)) m RS RS;rw[<-List.drop_drop] at this;exact this
theorem ajh {i:Int}(h0:0<=i)(h1:i<32):cO (wrap .i64 (Int.tdiv i 4)) 8=true/\decide ((0:Int)<=wrap .i64 (24-wrap .i64 (8*Int.tmod i 4)))=true:=by rw[Int.tdiv_eq_ediv_of_nonneg h0,Int.tmod_eq_emod_of_nonneg h0,iy (i:=i/4) RS RS,iy (i:=8*(i% 4)) RS RS,iy RS RS];exact⟨ow ⟨RS,RS⟩,decide_eq_true RS⟩
theorem hOut {n:Nat}{bW:(Vec 8)×(Vec 64)×Int}:∀(k:Nat)(i:Int)(o:Vec 32)(m:Nat),i+k=32->0<=i->k<m->Jv n bW m (i,o)=some ((),oq (Yq bW.1) k i o):=by
 intro k;induction k with
 |zero=>intro i s m hi h0 hm;obtain⟨m,rfl⟩:∃q,m=q+1:=⟨m-1,RS⟩;rw[aiP,decide_eq_false RS];rfl
 |succ k ih=>intro i s m hi h0 hm;obtain⟨m,rfl⟩:∃q,m=q+1:=⟨m-1,RS⟩;obtain⟨g1,g2⟩:=ajh h0 (show i<32 by omega);rw[aiP,decide_eq_true (show i<32 by omega),cond_true,g1,g2,ow (i:=i) (n:=32) ⟨RS,RS⟩,vP RS RS];exact ih (i+1) _ m RS RS RS
theorem auV {n:Nat}{h:Vec 8}:∀(k:Nat)(i:Int)(o:Vec 32)(m:Nat),i+k=32->0<=i->k<m->JD n ((),h) m (i,o)=some ((),oq (Yq h) k i o):=by
 intro k;induction k with
 |zero=>intro i s m hi h0 hm;obtain⟨m,rfl⟩:∃q,m=q+1:=⟨m-1,RS⟩;rw[ai1,decide_eq_false RS];rfl
 |succ k ih=>intro i s m hi h0 hm;obtain⟨m,rfl⟩:∃q,m=q+1:=⟨m-1,RS⟩;obtain⟨g1,g2⟩:=ajh h0 (show i<32 by omega);rw[ai1,decide_eq_true (show i<32 by omega),cond_true,g1,g2,ow (i:=i) (n:=32) ⟨RS,RS⟩,vP RS RS];exact ih (i+1) _ m RS RS RS
theorem auW {n:Nat}{b:List Int}(hB:kT b)(hb:b.length<2^28)(hbn:b.length<n)(hn:100<n):Ng n b=some (MV b):=by
 obtain⟨h1,h2⟩:=ZM b.length;rw[aui,auT hb hn];have hl:(b++w9 b.length).length=b.length+(1+zpad b.length+8):=by rw[iP,Tt]
 show (JC n (b++w9 b.length) n (((0:Nat):Int),C8)).bind _=_;rw[auU (Bb hB (ajg _)) RS hn ((b.length+(1+zpad b.length+8))/64) 0 C8 n RS RS];show ((JD n ((),AV _ C8 (b++w9 b.length)) n (0,Vec.rep 32 0)).bind _)=_;rw[auV 32 0 _ n aL aL RS];rfl
theorem auX {n:Nat}{b:List Int}{h:Vec 8}{v:Vec 64}{c:Int}(hs:zR b h v c)(hb:b.length<2^28)(hn:200<n):M8 n (h,(v,c))=some (MV b):=by
 obtain⟨h1,h2⟩:=ZM b.length;have hc:c=(b.length:Int):=by obtain⟨_,_,_,_,_,_,_,_,e,_⟩:=hs;exact e
 have hB:kT b:=by obtain⟨_,_,_,_,_,_,_,_,_,e⟩:=hs;exact e
 subst hc;rw[at6,auQ RS (zpad b.length) [128] n (by rw[List.length_singleton];exact h1) h2 (by rw[List.length_singleton];omega) RS];show (Ju n h v (b.length:Nat) n ([128]++List.replicate (zpad b.length) 0,0)).bind _=_;rw[hLen 8 0 _ n aL aL (by simp only[iP,List.length_singleton,List.length_replicate];omega) RS];obtain⟨h',v',c',e1,e2⟩:=ZK (n:=n) (text:=mQ (w9 b.length)) RS hs (by rw[zQ,Tt];omega) (by rw[zQ,Tt];omega);show ((Dc n ((h,(v,(b.length:Int))),mQ (w9 b.length))).bind _)=_;rw[e1];show ((Jv n (h',(v',c')) n (0,Vec.rep 32 0)).bind _)=_;rw[hOut 32 0 _ n aL aL RS];rw[ZI (ajg _)] at e2;obtain⟨q,done,tail,hb',hd,htl,hh,_,_,_⟩:=e2;have hlen:(b++w9 b.length).length=64*q+tail.length:=by rw[hb',iP,hd]
 rw[iP,Tt] at hlen;have ht:tail=[]:=lF RS;subst ht;rw[iV] at hb';have hq:(b.length+(1+zpad b.length+8))/64=q:=by rw[List.length_nil] at hlen;omega
 show some (ah2 h')=some (MV b);unfold MV;rw[hq,hb',hh]
end Sh
end
section
open Go Go.Proofs aR
namespace Sh
set_option maxRecDepth 100000
theorem auY (n:Nat)(r:List Int):Nh n r=(Ng n r).bind fun h=>some (ah3 h):=ay
end Sh
end
section
open Go Go.Proofs aR
namespace Sh
theorem auZ {z:Int}(h0:0<=z):lT .u8 (wrap .u8 z) 128=z% 128+128:=by
 have h1:wrap .u8 z=z% 256:=by rw[IntKind.wrap_u8]
 rw[h1];have key:∀a:Nat,a<256->lT .u8 ((a:Nat):Int) 128=((a% 128+128:Nat):Int):=by
  intro a ha;have:∀a:Fin 256,lT .u8 ((a.val:Nat):Int) 128=((a.val% 128+128:Nat):Int):=KU
  exact this ⟨a,ha⟩
 have h2:z% 256=(((z% 256).toNat:Nat):Int):=RS
 rw[h2,key _ RS];omega
theorem Tv {x:Int}(h0:0<=x)(h1:x<2^64):wrap .u64 x=x:=by rw[IntKind.wrap_u64];omega
theorem aji {n:Nat}:∀(k:Nat)(z:Int)(p:List Int)(m:Nat),0<=z->z<128^k->z<2^64->p.length+k<2^20->k<=m->0<k->∃q y,Jt n m (z,p)=some (y,p++q)/\Jw n m (z,p)=some (y,p++q)/\q++[y]=AY k z/\q.length<k/\0<=y/\y<128:=by
 intro k;induction k with
 |zero=>intro z p m _ _ _ _ _ h;omega|succ k ih=>
  intro z p m h0 h1 h64 hp hm _;obtain⟨m,rfl⟩:∃q,m=q+1:=⟨m-1,RS⟩;by_cases hz:z>=128
  .have hk:0<k:=by
    rcases Nat.eq_zero_or_pos k with rfl|h
    .have:z<128:=Bz;omega
    .exact h
   have hd:z/128<128^k:=by rw[Int.pow_succ] at h1;exact Int.ediv_lt_of_lt_mul aL h1
   obtain⟨q,y,e1,e2,e3,e4,e5⟩:=ih (z/128) (p++[z% 128+128]) m RS hd RS wh RS hk;obtain⟨s0,s1⟩:=auq h0;refine⟨(z% 128+128)::q,y,?_,?_,?_,?_,e5⟩
   .rw[aiM,decide_eq_true (show z>127 by omega),cond_true,lU dP aL,cond_true,auZ h0,s1];rw[eZ] at e1;exact e1
   .rw[aiS,decide_eq_true hz,cond_true,show (!((128:Int)==0))=true from rfl,cond_true,lU dP aL,cond_true,cond_true];rw[Int.tmod_eq_emod_of_nonneg h0,aup h0,Tv RS RS];have hw:wrap .u8 (wrap .u8 (z% 128)+128)=z% 128+128:=(by rw[IntKind.wrap_u8,IntKind.wrap_u8];omega);rw[hw];rw[eZ] at e2;exact e2
   .rw[AY,if_pos hz,<-e3];rfl
   .simp;omega
  .refine⟨[],z,?_,?_,?_,aB,h0,RS⟩
   .rw[aiM,decide_eq_false (show¬z>127 by omega),iV];rfl
   .rw[aiS,decide_eq_false hz,iV];rfl
   .rw[AY,if_neg hz];rfl
def rI (x:Int):Prop:= -(2^63)<=x/\x<2^63
theorem ZN {x:Int}(h:rI x):0<=vO x/\vO x<2^64:=by unfold vO;unfold rI at h;split<;>omega
theorem au0 {a:Int}(h0:0<=a)(h1:a<2^64):eT .u64 a 0=a:=by
 unfold eT;obtain⟨c,rfl⟩:∃c:Nat,a=(c:Int):=⟨a.toNat,(Gl h0).symm⟩;have hc:c<2^64:=by exact_mod_cast h1
 have e:(BitVec.ofInt IntKind.u64.bits (c:Int)^^^BitVec.ofInt IntKind.u64.bits 0).toNat=c:=by show (BitVec.ofInt 64 (c:Int)^^^0#64).toNat=_;rw[BitVec.xor_zero,BitVec.ofInt_natCast,BitVec.toNat_ofNat,Ee hc]
 rw[e];exact Tv h0 h1
theorem au1 {a:Int}(h0:0<=a)(h1:a<2^64):eT .u64 a (2^64-1)=2^64-1-a:=by
 unfold eT;obtain⟨c,rfl⟩:∃c:Nat,a=(c:Int):=⟨a.toNat,(Gl h0).symm⟩;have hc:c<2^64:=by exact_mod_cast h1
 have e:(BitVec.ofInt IntKind.u64.bits (c:Int)^^^BitVec.ofInt IntKind.u64.bits (2^64-1)).toNat=2^64-1-c:=by show (BitVec.ofInt 64 (c:Int)^^^BitVec.ofInt 64 (2^64-1)).toNat=_;rw[show BitVec.ofInt 64 (2^64-1)=BitVec.allOnes 64 by decide,BitVec.xor_allOnes,BitVec.toNat_not,BitVec.ofInt_natCast,BitVec.toNat_ofNat,Ee hc]
 rw[e,IntKind.wrap_u64];omega
theorem au2 {x:Int}(h:rI x):eT .u64 (nu .u64 (wrap .u64 x) 1) (wrap .u64 (aH .i64 x 63))=vO x:=by
 obtain⟨a,b⟩:=h;have hs:nu .u64 (wrap .u64 x) 1=wrap .u64 (wrap .u64 x*2):=rfl;have hr:aH .i64 x 63=x.fdiv (2^63):=rfl;rw[hs,hr,Int.fdiv_eq_ediv_of_nonneg _ aL];unfold vO;by_cases hx:x<0
 .rw[if_pos hx,show x/2^63= -1 by omega,show wrap .u64 (-1)=2^64-1 by rw[IntKind.wrap_u64];decide];have:wrap .u64 (wrap .u64 x*2)=2*x+2^64:=by rw[IntKind.wrap_u64,IntKind.wrap_u64];omega
  rw[this,au1 RS RS];omega
 .rw[if_neg hx,show x/2^63=0 by omega,Tv (x:=x) RS RS,Tv (x:=x*2) RS RS,show wrap .u64 0=0 by rw[IntKind.wrap_u64];decide,au0 RS RS];omega
theorem ajj:∀(k:Nat)(z:Int),0<=z->kT (AY k z)
 |0,_,_=>fun x hx=>Ed
 |k+1,z,h=>by
  unfold AY;split
  .intro x hx;rcases iC.1 hx with rfl|hx
   .omega
   .exact ajj k _ RS x hx
  .intro x hx;rw[iZ.1 hx];omega
theorem au3 {x:Int}(h:rI x):kT (encI x):=ajj 10 _ (ZN h).1
theorem ajk:∀(k:Nat)(z:Int),(AY k z).length<=k
 |0,_=>mF _|k+1,z=>by
  unfold AY;split
  .rw[List.length_cons];have:=ajk k (z/128);omega
  .simp
theorem xk (x:Int):(encI x).length<=10:=ajk _ _
theorem ZO {y:Int}(h0:0<=y)(h1:y<128):wrap .u8 y=y:=by rw[IntKind.wrap_u8];omega
theorem Tw {n:Nat}{x:Int}(h:rI x)(hn:20<n):zM n x=some (encI x):=by obtain⟨z0,z1⟩:=ZN h;obtain⟨q,y,e1,_,e3,e4,e5,e6⟩:=aji (n:=n) 10 (vO x) [] n z0 (Int.lt_of_lt_of_le z1 aL) z1 aL RS aL;rw[at1,au2 h];show ((Jt n n (vO x,[])).bind _)=_;rw[e1,List.nil_append,Option.bind_some];rw[lU (by show q.length+1<_;omega) aL,cond_true,ZO e5 e6,e3];rfl
theorem Tx {n:Nat}{x:Int}(h:rI x)(hn:20<n):zN n x=some (encI x):=by
 obtain⟨z0,z1⟩:=ZN h;obtain⟨q,y,_,e1,e3,e4,e5,e6⟩:=aji (n:=n) 10 (vO x) [] n z0 (Int.lt_of_lt_of_le z1 aL) z1 aL RS aL;obtain⟨a,b⟩:=h;rw[auc];by_cases hx:x<0
 .have hz:wrap .u64 (wrap .u64 (wrap .u64 (wrap .i64 (-1-x))*2)+1)=vO x:=by unfold vO;rw[if_pos hx,IntKind.wrap_i64,IntKind.wrap_u64,IntKind.wrap_u64,IntKind.wrap_u64];omega
  rw[decide_eq_true hx,cond_true,hz,e1,List.nil_append,Option.bind_some];rw[lU (by show q.length+1<_;omega) aL,cond_true,ZO e5 e6,e3];rfl
 .have hz:wrap .u64 (wrap .u64 x*2)=vO x:=by unfold vO;rw[if_neg hx,IntKind.wrap_u64,IntKind.wrap_u64];omega
  rw[decide_eq_false hx,cond_false,hz,e1,List.nil_append,Option.bind_some];rw[lU (by show q.length+1<_;omega) aL,cond_true,ZO e5 e6,e3];rfl
theorem gR {J:Type}{c:Bool}{o r:Option J}(h:c=true)(k:o=r):(bif c then o else none)=r:=BA
theorem Bc {k:Nat}(h:k<2^62):rI ((k:Nat):Int):=KQ
theorem ajl {s:List UInt8}(h:s.length<2^62):kT (fu s):=Bb (au3 (Bc h)) (ajc _)
theorem Nw (s:List UInt8):(fu s).length<=s.length+10:=by unfold fu;rw[iP,ajd];have:=xk (s.length:Int);omega
theorem ajm {n:Nat}{s:List UInt8}(h:s.length<2^29)(hn:20<n):Jh n s=some (fu s):=by have hl:=xk (s.length:Int);rw[at5];exact bs (Tw (Bc RS) hn) (gR (lU (by rw[eU];omega) aL) rfl)
theorem ajn {n:Nat}{s:List UInt8}(h:s.length<2^29)(hn:20<n):ZS n s=some (fu s):=by have hl:=xk (s.length:Int);rw[aud];exact bs (Tx (Bc RS) hn) (gR (lU (by rw[eU];omega) aL) rfl)
def iY {J:Type}(f:J->List Int)(l:List J):Nat:=l.foldr (fun x s=>(f x).length+s) 0
theorem Ny {J:Type}(f:J->List Int):∀l:List J,(l.flatMap f).length=iY f l
 | []=>rfl|x::l=>by rw[lY,iP,Ny f l];rfl
theorem JE {J:Type}{f:J->List Int}{b:Nat}:∀{l:List J},(∀x∈l,(f x).length<=b)->iY f l<=b*l.length
 | [],_=>qA _|x::l,h=>by have h1:=h x aB;have h2:=JE (f:=f) (l:=l) fun y hy=>h y (jX _ hy);show (f x).length+iY f l<=b*(l.length+1);rw[Nat.mul_add,Nat.mul_one];omega
theorem au4 {n:Nat}{l:List Int}(hb:∀x∈l,rI x)(hlen:l.length<2^62)(hn:20<n):∀(k i m:Nat)(a:List Int),i+k=l.length->k<m->a.length+iY encI (l.drop i)<2^29->Nq n l m (a,(i:Int))=some (a++(l.drop i).flatMap encI):=by
 intro k;induction k with
 |zero=>intro i m a hi hm hc;obtain⟨m,rfl⟩:∃m',m=m'+1:=⟨m-1,RS⟩;rw[aiR,mD RS,nZ RS,List.flatMap_nil,iV];rfl
 |succ k ih=>
  intro i m a hi hm hc;obtain⟨m,rfl⟩:∃m',m=m'+1:=⟨m-1,RS⟩;have hlt:i<l.length:=RS
  have hx:l[i]? =some l[i]:=gG hlt;have hd:l.drop i=l[i]::l.drop (i+1):=nW hlt;rw[hd] at hc⊢;have hm':=hb l[i] (lX hlt);generalize l[i]=x at hx hc hm'⊢;rw[aiR,jm hx,fF hx,fU RS,cond_true];have hsz:iY encI (x::l.drop (i+1))=(encI x).length+iY encI (l.drop (i+1)):=rfl;have h:=ih (i+1) m (a++encI x) RS RS rW;rw[eZ] at h;exact bs rfl (bs (Tw hm' hn) (gR (lU RS aL) h))
theorem au5 {n:Nat}{l:List Int}(hb:∀x∈l,rI x)(hlen:l.length<2^62)(hn:20<n):∀(k i m:Nat)(a:List Int),i+k=l.length->k<m->a.length+iY encI (l.drop i)<2^29->Nu n l m (a,(i:Int))=some (a++(l.drop i).flatMap encI):=by
 intro k;induction k with
 |zero=>intro i m a hi hm hc;obtain⟨m,rfl⟩:∃m',m=m'+1:=⟨m-1,RS⟩;rw[ai2,mD RS,nZ RS,List.flatMap_nil,iV];rfl
 |succ k ih=>
  intro i m a hi hm hc;obtain⟨m,rfl⟩:∃m',m=m'+1:=⟨m-1,RS⟩;have hlt:i<l.length:=RS
  have hx:l[i]? =some l[i]:=gG hlt;have hd:l.drop i=l[i]::l.drop (i+1):=nW hlt;rw[hd] at hc⊢;have hm':=hb l[i] (lX hlt);generalize l[i]=x at hx hc hm'⊢;rw[ai2,jm hx,fF hx,fU RS,cond_true];have hsz:iY encI (x::l.drop (i+1))=(encI x).length+iY encI (l.drop (i+1)):=rfl;have h:=ih (i+1) m (a++encI x) RS RS rW;rw[eZ] at h;exact bs rfl (bs (Tx hm' hn) (gR (lU RS aL) h))
def vQ (l:List Int):List Int:=encI (l.length:Nat)++l.flatMap encI
def Dl (l:List (List UInt8)):List Int:=encI (l.length:Nat)++l.flatMap fu
theorem ajo {J:Type}{f:J->List Int}:∀{l:List J},(∀x∈l,kT (f x))->kT (l.flatMap f)
 | [],_=>fun x hx=>Ed
 |x::l,h=>by rw[lY];exact Bb (h x aB) (ajo fun y hy=>h y (jX _ hy))
theorem Tz {l:List Int}:(vQ l).length<=10+10*l.length:=by unfold vQ;rw[iP,Ny];have h1:=xk (l.length:Int);have h2:=JE (f:=encI) (b:=10) (l:=l) fun x _=>xk x;omega
theorem ZP {l:List (List UInt8)}{b:Nat}(h:∀x∈l,x.length<=b):(Dl l).length<=10+(b+10)*l.length:=by
 unfold Dl;rw[iP,Ny];have h1:=xk (l.length:Int);have h2:=JE (f:=fu) (b:=b+10) (l:=l) fun x hx=>by have:=Nw x;have:=h x hx;omega
 omega
theorem ajp {n:Nat}{l:List Int}(hb:∀x∈l,rI x)(hl:l.length<2^20)(hn:l.length<n)(hn2:20<n):Df n l=some (vQ l):=by have h1:=xk (l.length:Int);have h2:=JE (f:=encI) (b:=10) (l:=l) fun x _=>xk x;rw[aub];refine bs (?_:_=some (vQ l)) rfl;rw[aua];exact bs (Tw (Bc RS) hn2) (bs (au4 hb RS hn2 l.length 0 n _ RS hn (by rw[qC];omega)) rfl)
theorem au6 {n:Nat}{l:List Int}(hb:∀x∈l,rI x)(hl:l.length<2^20)(hn:l.length<n)(hn2:20<n):Fx n l=some (vQ l):=by have h1:=xk (l.length:Int);have h2:=JE (f:=encI) (b:=10) (l:=l) fun x _=>xk x;rw[auk];exact bs (Tx (Bc RS) hn2) (bs (au5 hb RS hn2 l.length 0 n _ RS hn (by rw[qC];omega)) rfl)
theorem au7 (n:Nat):∃v,M4 n ()=some (C8,(v,(0:Int))):=by rw[atV];exact⟨_,rfl⟩
theorem au8 {n:Nat}{ls:List (List UInt8)}(hb:∀x∈ls,x.length<2^28)(hlen:ls.length<2^62)(hn:70<n):∀(k i m:Nat)(b:List Int)(h:Vec 8)(v:Vec 64)(c:Int),i+k=ls.length->k<m->zR b h v c->b.length+iY fu (ls.drop i)<2^28->iY fu (ls.drop i)<n->
 ∃h' v' c',Np n ls m ((i:Int),(h,(v,c)))=some ((),(h',(v',c')))/\zR (b++(ls.drop i).flatMap fu) h' v' c':=by
 intro k;induction k with
 |zero=>
  intro i m b h v c hi hm hs _ _;obtain⟨m,rfl⟩:∃m',m=m'+1:=⟨m-1,RS⟩;refine⟨h,v,c,?_,?_⟩
  .rw[aiQ,mD RS];rfl
  .rw[nZ RS,List.flatMap_nil,iV];exact hs
 |succ k ih=>
  intro i m b h v c hi hm hs hsz ajq;obtain⟨m,rfl⟩:∃m',m=m'+1:=⟨m-1,RS⟩;have hlt:i<ls.length:=RS
  have hx:ls[i]? =some ls[i]:=gG hlt;have hd:ls.drop i=ls[i]::ls.drop (i+1):=nW hlt;rw[hd] at hsz ajq⊢;have hm':=hb ls[i] (lX hlt);generalize ls[i]=x at hx hsz ajq hm'⊢;have e:iY fu (x::ls.drop (i+1))=(fu x).length+iY fu (ls.drop (i+1)):=rfl;have hB:kT (fu x):=ajl RS;obtain⟨h1,v1,c1,g1,g2⟩:=ZK (n:=n) (text:=mQ (fu x)) hn hs (by rw[zQ];omega) (by rw[zQ];omega);rw[ZI hB] at g2;obtain⟨h2,v2,c2,g3,g4⟩:=ih (i+1) m (b++fu x) h1 v1 c1 RS RS g2 rW RS;refine⟨h2,v2,c2,?_,?_⟩
  .rw[aiQ,jm hx,fF hx,fU RS,cond_true];exact bs rfl (bs (ajm RS RS) (bs g1 g3))
  .rw[lY,<-eZ];exact g4
theorem au9 (t:Int){ls:List (List UInt8)}(hb:∀x∈ls,x.length<2^28):kT (Ja t ls):=
 Bb (fun x hx=>by rw[iZ.1 hx];exact ZL t) (ajo fun x hx=>ajl (by have:=hb x hx;omega))
theorem JF {n:Nat}{t:Int}{ls:List (List UInt8)}(hb:∀x∈ls,x.length<2^28)(hs:1+iY fu ls<2^28)(hsn:iY fu ls<n)(hl:ls.length<n)(hn:200<n)(hlen:ls.length<2^62):A8 n (t,ls)=some (pR t ls):=by
 rw[at7];obtain⟨v,hv⟩:=au7 n;have s0:zR [] C8 v 0:=⟨0,[],[],rfl,rfl,aL,rfl,rfl,rfl,fun x hx=>Ed⟩;have hB1:kT [wrap .u8 t]:=fun x hx=>by rw[iZ.1 hx];exact ZL t
 obtain⟨h1,v1,c1,g1,g2⟩:=ZK (n:=n) (text:=mQ [wrap .u8 t]) RS s0 (by rw[zQ];simp) (by rw[zQ];simp;omega);rw[ZI hB1,List.nil_append] at g2;obtain⟨h2,v2,c2,g3,g4⟩:=au8 (n:=n) hb hlen RS ls.length 0 n _ h1 v1 c1 RS hl g2 (by rw[qC,List.length_singleton];exact hs) (by rw[qC];exact hsn);rw[qC] at g4;have g5:=auX (n:=n) g4 (by rw[iP,List.length_singleton,Ny];exact hs) hn;refine bs hv (bs g1 (bs g3 ?_));refine bs g5 ?_;exact gR aL (gR aL rfl)
theorem ava {n:Nat}{ls:List (List UInt8)}(hb:∀x∈ls,x.length<2^28)(hlen:ls.length<2^62)(hn:20<n):∀(k i m:Nat)(a:List Int),i+k=ls.length->k<m->a.length+iY fu (ls.drop i)<2^29->Nr n ls m (a,(i:Int))=some (a++(ls.drop i).flatMap fu):=by
 intro k;induction k with
 |zero=>intro i m a hi hm hc;obtain⟨m,rfl⟩:∃m',m=m'+1:=⟨m-1,RS⟩;rw[aiT,mD RS,nZ RS,List.flatMap_nil,iV];rfl
 |succ k ih=>
  intro i m a hi hm hc;obtain⟨m,rfl⟩:∃m',m=m'+1:=⟨m-1,RS⟩;have hlt:i<ls.length:=RS
  have hx:ls[i]? =some ls[i]:=gG hlt;have hd:ls.drop i=ls[i]::ls.drop (i+1):=nW hlt;rw[hd] at hc⊢;have hm':=hb ls[i] (lX hlt);generalize ls[i]=x at hx hc hm'⊢;rw[aiT,jm hx,fF hx,fU RS,cond_true];have hsz:iY fu (x::ls.drop (i+1))=(fu x).length+iY fu (ls.drop (i+1)):=rfl;have h:=ih (i+1) m (a++fu x) RS RS rW;rw[eZ] at h;exact bs rfl (bs (ajn RS hn) (gR (lU RS aL) h))
theorem avb {n:Nat}{t:Int}{ls:List (List UInt8)}(hb:∀x∈ls,x.length<2^28)(hs:1+iY fu ls<2^28)(hsn:1+iY fu ls<n)(hl:ls.length<n)(hn:200<n)(hlen:ls.length<2^62):Ni n (t,ls)=some (pR t ls):=by
 rw[auj];have h1:Na n (t,ls)=some (Ja t ls):=by rw[aue];refine bs (ava hb hlen RS ls.length 0 n _ RS hl (by rw[qC,List.length_singleton];omega)) ?_;rw[qC];rfl
 have aBi:(Ja t ls).length=1+iY fu ls:=by unfold Ja;rw[iP,List.length_singleton,Ny]
 have h2:Nh n (Ja t ls)=some (pR t ls):=by rw[auY,auW (au9 t hb) RS RS RS];rfl
 exact bs h1 (bs h2 rfl)
end Sh
end
