import Derived.IntWalk
import Derived.Test.YtdcnajadcbedkaaGreatDoorF919
set_option linter.all false
open Go.IntKind (wrap)
section
open Go Go.Proofs aR
namespace Sh
theorem Gj {U:Type}(l:List U)(i:Nat):aH l (i:Int)=l[i]? :=by
 unfold aH;by_cases h:i<l.length
 .rw[if_pos ⟨RS,RS⟩];simp
 .rw[if_neg RS];simp;omega
theorem eH {U:Type}{l:List U}{i:Nat}{x:U}(h:l[i]? =some x):aH l (i:Int)=some x:=by rw[Gj,h]
theorem q8 {U:Type}{l:List U}{i:Nat}{x:U}(h:l[i]? =some x):i<l.length:=by rw[uU] at h;exact h.1
theorem iG {U:Type}{l:List U}{i:Nat}{x:U}(h:l[i]? =some x):decide ((i:Int)< (l.length:Int))=true:=by have:=q8 h;simp;omega
theorem BF {U:Type}(l:List U):decide ((l.length:Int)< (l.length:Int))=false:=aD
theorem fK {i:Nat}(h:i<2^62):wrap .i64 ((i:Int)+(1:Int))=((i+1:Nat):Int):=Au
def foldI {U β Y:Type}(step:U->Nat->Y->(Y->β)->β)(fin:Y->β):Nat->List U->Y->β
 |_,[],s=>fin s|i,x::l,s=>step x i s fun s=>foldI step fin (i+1) l s
theorem ayZ {U β Y:Type}{L:Nat->Y->Int->Option β}{l:List U}(step:U->Nat->Y->(Y->Option β)->Option β)(fin:Y->Option β)(hs:∀m (i:Nat) x s,l[i]? =some x->L (m+1) s (i:Int)=step x i s fun s=>L m s ((i+1:Nat):Int))(hf:∀m s,L (m+1) s (l.length:Int)=fin s)(hc:∀x (i:Nat) s k k',(∀s,k s=k' s)->step x i s k=step x i s k'):∀(k i m:Nat)(s:Y),i+k=l.length->k<m->L m s (i:Int)=foldI step fin i (l.drop i) s:=by
 intro k;induction k with
 |zero=>
  intro i m s hi hm;obtain⟨m,rfl⟩:∃m',m=m'+1:=⟨m-1,RS⟩;obtain rfl:i=l.length:=RS
  rw[hf,List.drop_length];rfl
 |succ k ih=>
  intro i m s hi hm;obtain⟨m,rfl⟩:∃m',m=m'+1:=⟨m-1,RS⟩;have hlt:i<l.length:=RS
  have hx:l[i]? =some l[i]:=fA hlt;rw[hs m i l[i] s hx,nY hlt];exact hc _ _ _ _ _ fun s=>ih (i+1) m s RS RS
theorem Oq {U β:Type}{L:Nat->Int->Option β}{l:List U}(step:U->Nat->Option β->Option β)(fin:Option β)(hs:∀m (i:Nat) x,l[i]? =some x->L (m+1) (i:Int)=step x i (L m ((i+1:Nat):Int)))(hf:∀m,L (m+1) (l.length:Int)=fin){m:Nat}(hm:l.length<m):
 L m (0:Int)=foldI (Y:=Unit) (fun x i _ k=>step x i (k ())) (fun _=>fin) 0 l ():=by
 have:=ayZ (L:=fun m (_:Unit) i=>L m i) (l:=l) (fun x i _ k=>step x i (k ())) (fun _=>fin) (fun m i x _ h=>hs m i x h) (fun m _=>hf m) (fun x i s k k' h=>by rw[h]) l.length 0 m () RS hm;simpa using this
theorem Kn {U:Type}{γ:Type}(p:U->Bool)(f:Nat->γ)(z:γ):∀(l:List U)(i:Nat),foldI (Y:=Unit) (fun x i _ (k:Unit->Option γ)=>bif p x then some (f i) else k ()) (fun _=>some z) i l ()=some (match l.findIdx? p with|some j=>f (i+j)|none=>z)
 | [],i=>rfl|x::l,i=>by
  show (bif p x then some (f i) else foldI _ _ (i+1) l ())=_;rw[List.findIdx?_cons];cases hp:p x
  .rw[cond_false,Kn p f z l (i+1)];simp only[dI,if_false];cases l.findIdx? p with
   |none=>rfl|some j=>simp only[Option.map_some];rw[Nat.add_right_comm,oV]
  .simp
theorem BG {U β Y:Type}{L:Nat->Y->Int->Option β}{l:List U}(hs:∀m (i:Nat) x s,l[i]? =some x->(∀s,∃r,L m s ((i+1:Nat):Int)=some r)->∃r,L (m+1) s (i:Int)=some r)(hf:∀m s (i:Nat),l.length<=i->∃r,L (m+1) s (i:Int)=some r):
 ∀(k i m:Nat)(s:Y),l.length<=i+k->k<m->∃r,L m s (i:Int)=some r:=by
 intro k;induction k with
 |zero=>intro i m s hi hm;obtain⟨m,rfl⟩:∃m',m=m'+1:=⟨m-1,RS⟩;exact hf m s i RS
 |succ k ih=>
  intro i m s hi hm;obtain⟨m,rfl⟩:∃m',m=m'+1:=⟨m-1,RS⟩;by_cases h:l.length<=i
  .exact hf m s i h
  .exact hs m i _ s (fA RS) fun s=>ih (i+1) m s RS RS
theorem l5 {U:Type}{l:List U}{i:Nat}(h:l.length<=i):decide ((i:Int)< (l.length:Int))=false:=dz
theorem bs {U β:Type}{o:Option U}{a:U}{f:U->Option β}{r:Option β}(h:o=some a)(k:f a=r):o.bind f=r:=Eu
theorem uK {a k:Nat}(h:a<2^30)(hk:k<=2^12):cB a k=true:=by
 unfold cB;have h1:a*k<=2^30*2^12:=Nat.mul_le_mul (Nat.le_of_lt h) hk;have e:(2:Nat)^30*2^12<=2^47:=aG
 rw[bf,decide_eq_true_iff,decide_eq_true_iff];exact⟨RS,RS⟩
theorem Uw {U:Type}{l:List U}{i:Nat}(h:i<l.length):decide (0<=(i:Int)/\(i:Int)< (l.length:Int))=true:=decide_eq_true ⟨RS,RS⟩
theorem Ot {U:Type}{c:Bool}{x d:U}:kC c (some x) d=some (bif c then x else d):=by cases c<;>rfl
theorem Ux {i:Nat}(h:0<i)(hb:i<2^62):wrap .i64 ((i:Int)-(1:Int))=((i-1:Nat):Int):=Au
theorem DK {U:Type}{l:List U}{i:Nat}(h:i<l.length):∃x,aH l (i:Int)=some x/\x∈l:=⟨l[i],by rw[Gj,fA h],lq h⟩
theorem Uy {a b:Nat}(h:a+b<2^62):wrap .i64 ((((a:Nat):Int))+(((b:Nat):Int)))=((a+b:Nat):Int):=Au
theorem Uz {U:Type}{a k:Nat}{o:Option U}(h:a<2^30)(hk:k<=2^12:=by omega):(bif cB a k then o else none)=o:=by rw[uK h hk];rfl
theorem abd {τ β:Type}{L:Nat->τ->Option β}(Inv:τ->Prop)(mu:τ->Nat)(Post:β->Prop)(h:∀m p,Inv p->(∀p',Inv p'->mu p'<mu p->∃r,L m p'=some r/\Post r)->∃r,L (m+1) p=some r/\Post r):∀m p,Inv p->mu p<m->∃r,L m p=some r/\Post r
 |0,p,_,hm=>RS|m+1,p,hp,hm=>h m p hp fun p' hp' hlt=>abd Inv mu Post h m p' hp' RS
theorem jU {U:Type}{P:U->Prop}{c:Bool}{a b:Option U}(ha:c=true->∃r,a=some r/\P r)(hb:c=false->∃r,b=some r/\P r):∃r,(bif c then a else b)=some r/\P r:=by
 cases c
 .exact hb rfl
 .exact ha rfl
theorem eT {U β:Type}{P:β->Prop}{o:Option U}{f:U->Option β}(h:∃x,o=some x/\∃r,f x=some r/\P r):∃r,o.bind f=some r/\P r:=by obtain⟨x,hx,h⟩:=h;rw[hx];exact h
theorem iT {U:Type}{P:U->Prop}{a:U}(h:P a):∃r,some a=some r/\P r:=⟨a,rfl,h⟩
theorem ay0 {U:Type}{l:List U}{i:Int}(h1:0<=i)(h2:decide (i< (l.length:Int))=true):∃x,aH l i=some x:=by obtain⟨j,rfl⟩:=Int.eq_ofNat_of_zero_le h1;rw[Gj];exact⟨l[j]' LM,fA _⟩
theorem amv {x:Int}(h:0<=x):wrap .u64 (Int.tdiv x 128)=wrap .u64 (x/128):=by rw[Int.tdiv_eq_ediv_of_nonneg h]
theorem iU {U:Type}{c:Bool}{a b r:Option U}(h:c=true)(k:a=r):(bif c then a else b)=r:=Eu
theorem lG {U:Type}{c:Bool}{a b r:Option U}(h:c=false)(k:b=r):(bif c then a else b)=r:=Eu
theorem vW {U:Type}{P:U->Prop}{c:Bool}{o:Option U}(h:c=true)(ho:∃r,o=some r/\P r):∃r,(bif c then o else none)=some r/\P r:=by rw[h];exact ho
theorem oL {i:Int}{n:Nat}(h:0<=i/\i<n):dJ i n=true:=decide_eq_true h
theorem z8 {i:Int}{n:Nat}(h:0<=i/\i<=n):iQ i n=true:=decide_eq_true h
def rotl (x k:Int):Int:=mJ .u32 (ji .u32 x (iJ .u64 (wrap .u64 k) 31)) (gq .u32 x (wrap .u64 (32-iJ .u64 (wrap .u64 k) 31)))
theorem abe (x:Int):0<=wrap .u64 x:=by rw[IntKind.wrap_u64];exact Int.emod_nonneg _ aG
theorem Gl (n:Nat)(x k:Int):yQ n (x,k)=some (rotl x k):=by rw[ayG,decide_eq_true (show (0:Int)<=iJ .u64 (wrap .u64 k) 31 from abe _),decide_eq_true (abe _)];rfl
def DL (x a b c:Int):Int:=dV .u32 (dV .u32 (rotl x (wrap .i64 (0-a))) (rotl x (wrap .i64 (0-b)))) (rotl x (wrap .i64 (0-c)))
theorem amw (n:Nat)(x a b c:Int):JV n (x,(a,(b,c)))=some (DL x a b c):=by rw[ayI,Gl,Gl,Gl];rfl
theorem vX {i:Int}(h0:0<=i)(h:i<2^62):wrap .i64 (i+(1:Int))=i+1:=Au
theorem gP {i:Int}(h0: -(2^62)<=i)(h:i<2^62):wrap .i64 i=i:=Au
theorem q9 {a k:Nat}(h:a<2^30)(hk:k<=2^12):cB a k=true:=uK h hk
theorem ay1 {x:Int}(h0:0<=x):0<=gq .u64 x 7/\gq .u64 x 7=x/128:=by have e:gq .u64 x 7=x.fdiv (2^7):=rfl;rw[e,Int.fdiv_eq_ediv_of_nonneg x aG];exact⟨Int.ediv_nonneg h0 aG,rfl⟩
theorem ay2 (k:IntKind)(a b:Int):mJ k a b=mJ k b a:=by unfold mJ;rw[BitVec.or_comm]
theorem ay3 (k:IntKind)(a b:Int):dV k a b=dV k b a:=by unfold dV;rw[BitVec.xor_comm]
theorem Aa (n:Nat)(x k:Int)(h0:0<=k)(h1:k<=32):uJ n (x,k)=some (kX x k):=by rw[ayT,decide_eq_true h0,cond_true,decide_eq_true (by rw[gP RS RS];omega:(0:Int)<=wrap .i64 (32-k))];rfl
theorem Ab {x k j i:Int}(h1:iJ .u64 (wrap .u64 k) 31=i)(h2:wrap .u64 (32-i)=j)(h3:wrap .i64 (32-j)=i):rotl x k=kX x j:=by unfold rotl kX;rw[h1,h2,h3,ay2]
theorem amx (x:Int){a b c:Int}(ha:rotl x (wrap .i64 (0-a))=kX x a)(hb:rotl x (wrap .i64 (0-b))=kX x b)(hc:rotl x (wrap .i64 (0-c))=kX x c):
 DL x a b c=dV .u32 (dV .u32 (kX x a) (kX x b)) (kX x c):=by
 unfold DL;rw[ha,hb,hc]
theorem ay4 (x:Int):DL x 6 11 25=dV .u32 (dV .u32 (kX x 6) (kX x 11)) (kX x 25):=
 amx x (Ab (i:=26) aG aG aG) (Ab (i:=21) aG aG aG) (Ab (i:=7) aG aG aG)
theorem ay5 (x:Int):DL x 2 13 22=dV .u32 (dV .u32 (kX x 2) (kX x 13)) (kX x 22):=
 amx x (Ab (i:=30) aG aG aG) (Ab (i:=19) aG aG aG) (Ab (i:=10) aG aG aG)
theorem ay6 (x:Int):rotl x (-7)=kX x 7:=Ab (i:=25) aG aG aG
theorem ay7 (x:Int):rotl x (-18)=kX x 18:=Ab (i:=14) aG aG aG
theorem ay8 (x:Int):rotl x (-17)=kX x 17:=Ab (i:=15) aG aG aG
theorem ay9 (x:Int):rotl x (-19)=kX x 19:=Ab (i:=13) aG aG aG
theorem UA {a b:Int}(k:Nat)(ha0:0<=a)(ha:a% 2^k=0)(ha1:a<2^32)(hb0:0<=b)(hb1:b<2^k)(hk:k<=32):mJ .u32 a b=a+b:=by
 obtain⟨c,rfl⟩:∃c:Nat,a=((c*2^k:Nat):Int):=by
  refine⟨(a/2^k).toNat,?_⟩;have h1:=Int.mul_ediv_add_emod a (2^k);rw[ha,Int.add_zero] at h1;have h2:0<=a/2^k:=Int.ediv_nonneg ha0 (Int.pow_nonneg aG);rw[Int.natCast_mul,G9 h2,Int.mul_comm]
  push_cast
  exact h1.symm
 obtain⟨d,rfl⟩:∃d:Nat,b=(d:Int):=⟨b.toNat,(G9 hb0).symm⟩;have hd:d<2^k:=by exact_mod_cast hb1
 have hkk:2^k<=2^32:=Nat.pow_le_pow_right aG hk;have hc:c*2^k<2^32:=by exact_mod_cast ha1
 have hsum:c*2^k|||d=c*2^k+d:=by rw[<-Nat.shiftLeft_eq,Nat.shiftLeft_add_eq_or_of_lt hd]
 have hlt:c*2^k|||d<2^32:=Nat.or_lt_two_pow hc RS
 unfold mJ;have e1:(BitVec.ofInt IntKind.u32.bits ((c*2^k:Nat):Int)|||BitVec.ofInt IntKind.u32.bits ((d:Nat):Int)).toNat=c*2^k+d:=by
  rw[BitVec.toNat_or];simp only[BitVec.ofInt_natCast,BitVec.toNat_ofNat];show (c*2^k)% 2^32|||d% 2^32=_
  rw[Ez hc,Ez RS,hsum]
 rw[e1,IntKind.wrap_u32];have:c*2^k+d<2^32:=RS
 omega
theorem aza {n:Nat}{v w:Vec n}(h:v.l=w.l):v=w:=by cases v;cases w;cases h;rfl
theorem at_set {n:Nat}(v:Vec n){i:Int}(y:Int)(h0:0<=i)(h1:i<n):(v.set i y).at' i=y:=by show (v.l.set i.toNat y).getD i.toNat 0=y;rw[nD,List.getElem?_set_self (by rw[v.h];omega)];rfl
theorem azb {n:Nat}(v:Vec n){i j:Int}(y:Int)(h0:0<=i)(h1:0<=j)(h:i≠j):(v.set i y).at' j=v.at' j:=by show (v.l.set i.toNat y).getD j.toNat 0=v.l.getD j.toNat 0;rw[nD,List.getElem?_set_ne RS,nD]
theorem abf {n:Nat}(v:Vec n)(i a b:Int):(v.set i a).set i b=v.set i b:=aza (List.set_set ..)
def lH (l:List Int):Prop:=∀x∈l,0<=x/\x<256
theorem UC {l:List Int}(h:lH l)(i:Nat):0<=l.getD i 0/\l.getD i 0<256:=by
 rw[nD];cases hi:l[i]? with
 |none=>exact⟨lM _,aG⟩|some x=>exact h x (uW hi)
theorem wrap32 {x:Int}(h0:0<=x)(h1:x<2^32):wrap .u32 x=x:=by rw[IntKind.wrap_u32];omega
theorem UD {x:Int}(k:Nat)(h0:0<=x)(h1:x*2^k<2^32)(hk:k<=32):ji .u32 x (k:Nat)=x*2^k:=by
 unfold ji;have:min (((k:Nat):Int)).toNat IntKind.u32.bits=k:=by show min (((k:Nat):Int)).toNat 32=k;rw[Int.toNat_natCast];omega
 rw[this,wrap32 (Int.mul_nonneg h0 (Int.pow_nonneg aG)) h1]
theorem azc {a b c d:Int}(ha:0<=a/\a<256)(hb:0<=b/\b<256)(hc:0<=c/\c<256)(hd:0<=d/\d<256):Zv a b c d=a*2^24+b*2^16+c*2^8+d:=by unfold Zv;rw[wrap32 RS RS,wrap32 RS RS,wrap32 RS RS,wrap32 RS RS];rw[show ji .u32 a 24=a*2^24 from UD 24 RS RS aG,show ji .u32 b 16=b*2^16 from UD 16 RS RS aG,show ji .u32 c 8=c*2^8 from UD 8 RS RS aG];have h1:mJ .u32 (a*2^24) (b*2^16)=a*2^24+b*2^16:=UA 24 RS RS RS RS RS aG;have h2:mJ .u32 (a*2^24+b*2^16) (c*2^8)=a*2^24+b*2^16+c*2^8:=UA 16 RS RS RS RS RS aG;have h3:mJ .u32 (a*2^24+b*2^16+c*2^8) d=a*2^24+b*2^16+c*2^8+d:=UA 8 RS RS RS RS RS aG;rw[h1,h2,h3]
theorem UE {x d:Int}(h0:0<=x)(h1:x<2^24)(hd:0<=d/\d<256):mJ .u32 (ji .u32 x 8) (wrap .u32 d)=x*256+d:=by rw[wrap32 RS RS,show ji .u32 x 8=x*2^8 from UD 8 RS RS aG,UA 8 RS RS RS RS RS aG];omega
theorem azd {n m:Nat}{x1:List Int}{i:Int}(h:x1.length=64)(h0:0<=i)(h1:i<16)(hb:lH x1)(v:Vec 64)(hv:v.at' i=0):Gh n x1 i (m+5) (0,v)=some ((),v.set i (Zw x1 i)):=by
 have hl:List.drop (Int.toNat (wrap .i64 (4*i))) (List.take (Int.toNat (wrap .i64 (wrap .i64 (4*i)+4))) x1)=[x1.getD (4*i.toNat) 0,x1.getD (4*i.toNat+1) 0,x1.getD (4*i.toNat+2) 0,x1.getD (4*i.toNat+3) 0]:=by
  rw[gP (i:=4*i) RS RS,gP RS RS];apply List.ext_getElem?;intro j;rw[List.getElem?_drop];by_cases hj:j<4
  .rw[List.getElem?_take_of_lt RS];have e:(4*i).toNat+j=4*i.toNat+j:=RS
   rw[e];have hg:∀k,k<64->x1[k]? =some (x1.getD k 0):=fun k hk=>by rw[nD,fA RS];rfl
   rw[hg _ RS];rcases j with _|_|_|_|j;all_goals first| (exact absurd hj RS)|rfl
  .rw[List.getElem?_eq_none wJ,List.getElem?_eq_none dz]
 have ba:=UC hb (4*i.toNat);have bb:=UC hb (4*i.toNat+1);have bc:=UC hb (4*i.toNat+2);have bd:=UC hb (4*i.toNat+3);unfold Zw;generalize x1.getD (4*i.toNat) 0=a at hl ba⊢;generalize x1.getD (4*i.toNat+1) 0=b at hl bb⊢;generalize x1.getD (4*i.toNat+2) 0=c at hl bc⊢;generalize x1.getD (4*i.toNat+3) 0=d at hl bd⊢;have hin:dJ i 64=true:=oL ⟨h0,RS⟩;have st:∀(m:Nat)(x4:Int)(x5:Vec 64)(y:Int),aH [a,b,c,d] x4=some y->0<=x4->x4<4->Gh n x1 i (m+1) (x4,x5)=Gh n x1 i m (x4+1,x5.set i (mJ .u32 (ji .u32 (x5.at' i) 8) (wrap .u32 y))):=by intro m x4 x5 y hy k0 k1;rw[al8,hl,decide_eq_true (show x4< (([a,b,c,d]:List Int).length:Nat) by simp;omega),hy,hin,vX k0 RS];rfl
 rw[st (m+4) 0 v a rfl aG aG,st (m+3) (0+1) _ b rfl aG aG,st (m+2) (0+1+1) _ c rfl aG aG,st (m+1) (0+1+1+1) _ d rfl aG aG];rw[al8,hl];rw[hv,at_set _ _ h0 (by show i<64;omega),at_set _ _ h0 (by show i<64;omega),at_set _ _ h0 (by show i<64;omega),abf,abf,abf];have e1:=UE (x:=0) (d:=a) aG aG ba;rw[e1,UE RS RS bb,UE RS RS bc,UE RS RS bd,azc ba bb bc bd];have e2:(((0*256+a)*256+b)*256+c)*256+d=a*2^24+b*2^16+c*2^8+d:=RS
 rw[e2];rfl
theorem hS2 {n:Nat}{x:List Int}:∀(k:Nat)(i:Int)(w:Vec 64)(m:Nat),i+k=64->16<=i->k<m->Gi n x m (i,w)=some ((),ou TT k i w):=by
 intro k;induction k with
 |zero=>intro i w m hi h16 hm;obtain⟨m,rfl⟩:∃q,m=q+1:=⟨m-1,RS⟩;rw[aa7,decide_eq_false RS];rfl
 |succ k ih=>intro i w m hi h16 hm;obtain⟨m,rfl⟩:∃q,m=q+1:=⟨m-1,RS⟩;rw[aa7,decide_eq_true (show i<64 by omega),decide_eq_false (show¬i<16 by omega),cond_true,cond_false];rw[gP (i:=i-15) RS RS,gP (i:=i-2) RS RS,gP (i:=i-16) RS RS,gP (i:=i-7) RS RS,vX RS RS];rw[oL (i:=i-15) ⟨RS,RS⟩,oL (i:=i-2) ⟨RS,RS⟩,oL (i:=i-16) ⟨RS,RS⟩,oL (i:=i-7) ⟨RS,RS⟩,oL (i:=i) ⟨RS,RS⟩];rw[Gl,Gl,Gl,Gl,ay6,ay7,ay8,ay9];exact ih (i+1) _ m RS RS RS
theorem hS1 {n:Nat}{x:List Int}(hx:x.length=64)(hb:lH x)(hn:60<n):∀(k:Nat)(i:Int)(w:Vec 64)(m:Nat),i+k=16->0<=i->(∀j,i<=j->w.at' j=0)->k+48<m->Gi n x m (i,w)=some ((),ou TT 48 16 (ou (TU x) k i w)):=by
 intro k;induction k with
 |zero=>
  intro i w m hi h0 hw hm;obtain rfl:i=16:=RS
  exact hS2 48 16 w m aG aG RS
 |succ k ih=>intro i w m hi h0 hw hm;obtain⟨m,rfl⟩:∃q,m=q+1:=⟨m-1,RS⟩;rw[aa7,decide_eq_true (show i<64 by omega),decide_eq_true (show i<16 by omega),cond_true,cond_true];rw[gP (i:=4*i) RS RS,gP (i:=4*i+4) RS RS,vX RS RS];rw[z8 (i:=4*i+4) ⟨RS,RS⟩,z8 (i:=4*i) ⟨RS,RS⟩,Bool.and_self,cond_true];obtain⟨q,rfl⟩:∃q,n=q+5:=⟨n-5,RS⟩;rw[azd hx h0 RS hb w (hw i (lM _))];exact ih (i+1) _ m RS RS (fun j hj=>by rw[azb _ _ h0 RS RS];exact hw j RS) RS
theorem aze {n:Nat}{x:List Int}(hx:x.length=64)(hb:lH x)(hn:70<n):NT n x=some (F3 x):=by rw[ayH];have h:=hS1 (n:=n) hx hb RS 16 0 (Vec.rep 64 0) n aG aG (fun j _=>by show (List.replicate 64 (0:Int)).getD j.toNat 0=0;rw[nD,List.getElem?_replicate];split<;>rfl) RS;rw[h];rfl
theorem azf {n:Nat}{x:List Int}(hx:x.length=64):∀(k:Nat)(i:Int)(w:Vec 64)(m:Nat),i+k=16->0<=i->k<m->Oo n x m (i,w)=some ((),ou (TU x) k i w):=by
 intro k;induction k with
 |zero=>intro i w m hi h0 hm;obtain⟨m,rfl⟩:∃q,m=q+1:=⟨m-1,RS⟩;rw[amm,decide_eq_false RS];rfl
 |succ k ih=>
  intro i w m hi h0 hm;obtain⟨m,rfl⟩:∃q,m=q+1:=⟨m-1,RS⟩;have hg:∀k:Nat,k<64->aH x ((k:Nat):Int)=some (x.getD k 0):=fun k hk=>by unfold aH;rw[if_pos ⟨RS,RS⟩,Int.toNat_natCast,nD,fA RS];rfl
  rw[amm,decide_eq_true (show i<16 by omega),cond_true];rw[gP (i:=4*i) RS RS,gP (i:=4*i+1) RS RS,gP (i:=4*i+2) RS RS,gP (i:=4*i+3) RS RS,vX RS RS];rw[show (4*i:Int)=((4*i.toNat:Nat):Int) by omega,hg _ RS,show ((4*i.toNat:Nat):Int)+1=((4*i.toNat+1:Nat):Int) by omega,hg _ RS,show ((4*i.toNat:Nat):Int)+2=((4*i.toNat+2:Nat):Int) by omega,hg _ RS,show ((4*i.toNat:Nat):Int)+3=((4*i.toNat+3:Nat):Int) by omega,hg _ RS];rw[oL (i:=i) ⟨RS,RS⟩];exact ih (i+1) _ m RS RS RS
theorem azg {n:Nat}:∀(k:Nat)(i:Int)(w:Vec 64)(m:Nat),i+k=64->16<=i->k<m->Kh n m (i,w)=some ((),ou TT k i w):=by
 intro k;induction k with
 |zero=>intro i w m hi h16 hm;obtain⟨m,rfl⟩:∃q,m=q+1:=⟨m-1,RS⟩;rw[amn,decide_eq_false RS];rfl
 |succ k ih=>intro i w m hi h16 hm;obtain⟨m,rfl⟩:∃q,m=q+1:=⟨m-1,RS⟩;rw[amn,decide_eq_true (show i<64 by omega),cond_true];rw[gP (i:=i-15) RS RS,gP (i:=i-2) RS RS,gP (i:=i-16) RS RS,gP (i:=i-7) RS RS,vX RS RS];rw[oL (i:=i-15) ⟨RS,RS⟩,oL (i:=i-2) ⟨RS,RS⟩,oL (i:=i-16) ⟨RS,RS⟩,oL (i:=i-7) ⟨RS,RS⟩,oL (i:=i) ⟨RS,RS⟩];rw[Aa _ _ _ aG aG,Aa _ _ _ aG aG,Aa _ _ _ aG aG,Aa _ _ _ aG aG];exact ih (i+1) _ m RS RS RS
theorem azh {n:Nat}{x:List Int}(hx:x.length=64)(hn:70<n):Oa n x=some (F3 x):=by rw[ayU,azf hx 16 0 (Vec.rep 64 0) n aG aG RS];show (Kh n n (16,ou (TU x) 16 0 (Vec.rep 64 0))).bind _=_;rw[azg 48 16 _ n aG aG RS];rfl
def amy (v e:Vec 4)(s:Vec 8)(i:Int):Vec 8:=(s.set i (wrap .u32 (s.at' i+v.at' i))).set (i+4) (wrap .u32 ((s.set i (wrap .u32 (s.at' i+v.at' i))).at' (i+4)+e.at' i))
def cat (v e:Vec 4):Vec 8:=Vec.lit 8 (v.l++e.l)
theorem UF (v:Vec 4):∃a b c d,v=Vec.lit 4 [a,b,c,d]:=by
 obtain⟨l,h⟩:=v
 match l,h with
 | [a,b,c,d],_=>exact⟨a,b,c,d,rfl⟩
theorem amA (v:Vec 8):∃a b c d e f g h,v=Vec.lit 8 [a,b,c,d,e,f,g,h]:=by
 obtain⟨l,hl⟩:=v
 match l,hl with
 | [a,b,c,d,e,f,g,h],_=>exact⟨a,b,c,d,e,f,g,h,rfl⟩
theorem add_eq (v e:Vec 4)(s:Vec 8):ou (amy v e) 4 0 s=ou (Zx (cat v e)) 8 0 s:=by obtain⟨a,b,c,d,rfl⟩:=UF v;obtain⟨a',b',c',d',rfl⟩:=UF e;obtain⟨s0,s1,s2,s3,s4,s5,s6,s7,rfl⟩:=amA s;kernel_rfl
theorem azi (s:Vec 8):cat (s.slc 0 4) (s.slc 4 4)=s:=by obtain⟨s0,s1,s2,s3,s4,s5,s6,s7,rfl⟩:=amA s;kernel_rfl
theorem azj {n:Nat}{r2:List Int}{x3:Int}{x4:Vec 8}{w:Vec 64}:∀(k:Nat)(i:Int)(s:Vec 8)(m:Nat),i+k=64->0<=i->k<m->Ki n r2 x3 x4 w m (i,s)=some ((),ou (NK w) k i s):=by
 intro k;induction k with
 |zero=>intro i s m hi h0 hm;obtain⟨m,rfl⟩:∃q,m=q+1:=⟨m-1,RS⟩;rw[amo,decide_eq_false RS];rfl
 |succ k ih=>intro i s m hi h0 hm;obtain⟨m,rfl⟩:∃q,m=q+1:=⟨m-1,RS⟩;rw[amo,decide_eq_true (show i<64 by omega),cond_true,oL (i:=i) (n:=64) ⟨RS,RS⟩,vX RS RS];rw[Aa _ _ _ aG aG,Aa _ _ _ aG aG,Aa _ _ _ aG aG,Aa _ _ _ aG aG,Aa _ _ _ aG aG,Aa _ _ _ aG aG];exact ih (i+1) _ m RS RS RS
theorem azk (w:Vec 64)(v e:Vec 4)(i:Int):cat (Vec.lit 4 [wrap .u32 (wrap .u32 (wrap .u32 (wrap .u32 (wrap .u32 (e.at' 3+DL (e.at' 0) 6 11 25)+dV .u32 (iJ .u32 (e.at' 0) (e.at' 1)) (iJ .u32 (dV .u32 4294967295 (e.at' 0)) (e.at' 2)))+xC.at' i)+w.at' i)+wrap .u32 (DL (v.at' 0) 2 13 22+dV .u32 (dV .u32 (iJ .u32 (v.at' 0) (v.at' 1)) (iJ .u32 (v.at' 0) (v.at' 2))) (iJ .u32 (v.at' 1) (v.at' 2)))),v.at' 0,v.at' 1,v.at' 2]) (Vec.lit 4 [wrap .u32 (v.at' 3+wrap .u32 (wrap .u32 (wrap .u32 (wrap .u32 (e.at' 3+DL (e.at' 0) 6 11 25)+dV .u32 (iJ .u32 (e.at' 0) (e.at' 1)) (iJ .u32 (dV .u32 4294967295 (e.at' 0)) (e.at' 2)))+xC.at' i)+w.at' i)),e.at' 0,e.at' 1,e.at' 2])=NK w (cat v e) i:=by
 obtain⟨a,b,c,d,rfl⟩:=UF v;obtain⟨a',b',c',d',rfl⟩:=UF e;rw[ay4,ay5,ay3 IntKind.u32 4294967295];rfl
theorem hR {n:Nat}{x1:Vec 8}{w:Vec 64}:∀(k:Nat)(i:Int)(v e:Vec 4)(m:Nat),i+k=64->0<=i->k<m->∃v' e',J7 n x1 w m (i,(v,e))=some ((),(v',e'))/\cat v' e'=ou (NK w) k i (cat v e):=by
 intro k;induction k with
 |zero=>intro i v e m hi h0 hm;obtain⟨m,rfl⟩:∃q,m=q+1:=⟨m-1,RS⟩;refine⟨v,e,?_,rfl⟩;rw[al9,decide_eq_false RS];rfl
 |succ k ih=>intro i v e m hi h0 hm;obtain⟨m,rfl⟩:∃q,m=q+1:=⟨m-1,RS⟩;obtain⟨v',e',h1,h2⟩:=ih (i+1) _ _ m RS RS RS;rw[azk] at h2;refine⟨v',e',?_,h2⟩;rw[al9,decide_eq_true (show i<64 by omega),cond_true,oL (i:=i) (n:=64) ⟨RS,RS⟩,vX RS RS,amw,amw];exact h1
theorem azl {n:Nat}{r2:List Int}{x3:Int}{v:Vec 8}:∀(k:Nat)(i:Int)(s:Vec 8)(m:Nat),i+k=8->0<=i->k<m->Kj n r2 x3 ((),v) m (i,s)=some ((),ou (Zx v) k i s):=by
 intro k;induction k with
 |zero=>intro i s m hi h0 hm;obtain⟨m,rfl⟩:∃q,m=q+1:=⟨m-1,RS⟩;rw[amq,decide_eq_false RS];rfl
 |succ k ih=>intro i s m hi h0 hm;obtain⟨m,rfl⟩:∃q,m=q+1:=⟨m-1,RS⟩;rw[amq,decide_eq_true (show i<8 by omega),cond_true,oL (i:=i) (n:=8) ⟨RS,RS⟩,vX RS RS];exact ih (i+1) _ m RS RS RS
theorem hA {n:Nat}{v e:Vec 4}:∀(k:Nat)(i:Int)(s:Vec 8)(m:Nat),i+k=4->0<=i->k<m->J8 n ((),(v,e)) m (i,s)=some ((),ou (amy v e) k i s):=by
 intro k;induction k with
 |zero=>intro i s m hi h0 hm;obtain⟨m,rfl⟩:∃q,m=q+1:=⟨m-1,RS⟩;rw[ama,decide_eq_false RS];rfl
 |succ k ih=>intro i s m hi h0 hm;obtain⟨m,rfl⟩:∃q,m=q+1:=⟨m-1,RS⟩;rw[ama,decide_eq_true (show i<4 by omega),cond_true,oL (i:=i) (n:=8) ⟨RS,RS⟩,oL (i:=i) (n:=4) ⟨RS,RS⟩,vX RS RS,gP (i:=i+4) RS RS,oL (i:=i+4) (n:=8) ⟨RS,RS⟩];exact ih (i+1) _ m RS RS RS
theorem hcomp {n:Nat}{h:Vec 8}{x:List Int}(hx:x.length=64)(hb:lH x)(hn:70<n):NV n (h,x)=some (zV h x):=by rw[ayJ,aze hx hb hn];obtain⟨v',e',h1,h2⟩:=hR (n:=n) (x1:=h) (w:=F3 x) 64 0 (h.slc 0 4) (h.slc 4 4) n aG aG RS;show ((J7 n h (F3 x) n (0,(h.slc 0 4,h.slc 4 4))).bind _)=_;rw[h1];show ((J8 n ((),(v',e')) n (0,h)).bind _)=_;rw[hA 4 0 h n aG aG RS,add_eq,h2,azi];rfl
theorem azm:∀(q:Nat)(h:Vec 8)(d b:List Int),d.length=64*q->b.length=64->Bq (q+1) h (d++b)=zV (Bq q h d) b:=by
 intro q;induction q with
 |zero=>intro h d b hd hb;obtain rfl:d=[]:=qg RS;show zV h (b.take 64)=zV h b;rw[rC RS]
 |succ q ih=>intro h d b hd hb;show Bq (q+1) (zV h ((d++b).take 64)) ((d++b).drop 64)=zV (Bq q (zV h (d.take 64)) (d.drop 64)) b;rw[EH RS,LX RS];exact ih _ _ _ uS hb
def l6 (l:List Int):List UInt8:=l.map fun n=>UInt8.ofNat n.toNat
theorem amB (l:List UInt8):lH (qC l):=by intro x hx;obtain⟨b,_,rfl⟩:=EC.1 hx;have:=UInt8.toNat_lt b;omega
theorem abg {l:List Int}(h:lH l):qC (l6 l)=l:=by
 unfold qC l6;rw[AA]
 conv=>rhs;rw[<-List.map_id l]
 apply EB;intro x hx;obtain⟨h0,h1⟩:=h x hx;show ((UInt8.ofNat x.toNat).toNat:Int)=x;rw[UInt8.toNat_ofNat_of_lt' (show x.toNat<256 by omega)];omega
theorem amC (l:List UInt8):(qC l).length=l.length:=fF ..
theorem DN (l:List Int):(l6 l).length=l.length:=fF ..
theorem BH {l m:List Int}(h:lH l)(g:lH m):lH (l++m):=fun x hx=>(qF.1 hx).elim (h x) (g x)
theorem azn {l m:List Int}(h:lH (l++m)):lH m:=fun x hx=>h x (Cj _ hx)
def Ac (bs:List Int)(h:Vec 8)(v:Vec 64)(c:Int):Prop:=
 ∃q done tail,bs=done++tail/\done.length=64*q/\tail.length<64/\h=Bq q Dt done/\v.l.take tail.length=tail/\c=(bs.length:Int)/\lH bs
theorem Nu {n:Nat}{l:List Int}(h:l.length=n):(Vec.lit n l).l=l:=by unfold Vec.lit;rw[dif_pos h]
theorem UG {x:Int}(h0:0<=x)(h1:x<2^62):wrap .u64 x=x:=LG
theorem hAdd {n:Nat}(hn:70<n):∀(k:Nat)(text:List UInt8)(bs:List Int)(h:Vec 8)(v:Vec 64)(c:Int)(m:Nat),text.length<=k->Ac bs h v c->bs.length+text.length<2^61->k<m->
 ∃h' v' c',J9 n m (text,(h,(v,c)))=some ((),(h',(v',c')))/\Ac (bs++qC text) h' v' c':=by
 intro k;induction k with
 |zero=>intro text bs h v c m hk hs hl hm;obtain⟨m,rfl⟩:∃q,m=q+1:=⟨m-1,RS⟩;obtain rfl:text=[]:=qg RS;refine⟨h,v,c,?_,by simpa [qC] using hs⟩;rw[aa8];rfl
 |succ k ih=>
  intro text bs h v c m hk hs hl hm;obtain⟨m,rfl⟩:∃q,m=q+1:=⟨m-1,RS⟩;by_cases ht:text=[]
  .subst ht;refine⟨h,v,c,?_,by simpa [qC] using hs⟩;rw[aa8];rfl
  .obtain⟨q,done,tail,hb,hd,htl,hh,hv,hc,hB⟩:=hs;have hpos:0<text.length:=sw.2 ht;have hne:(!(text==[]))=true:=by cases text with
    |nil=>exact absurd rfl ht|cons a l=>rfl
   have hbl:bs.length=64*q+tail.length:=by rw[hb,eU,hd]
   have azo:Int.tmod c 64=(tail.length:Int):=by rw[hc,Int.tmod_eq_emod_of_nonneg RS];omega
   rw[aa8,hne,cond_true,azo,gP (i:=(tail.length:Int)) RS RS];have hcut:List.take (Int.toNat (64-(tail.length:Int))) (List.map (fun b:UInt8=>(b.toNat:Int)) text)=qC (text.take (64-tail.length)):=by unfold qC;rw[show Int.toNat (64-(tail.length:Int))=64-tail.length by omega,List.map_take]
   rw[hcut];generalize hj:64-tail.length=j;have hlen:(qC (text.take j)).length=min j text.length:=by rw[amC,nA]
   have hsplit:qC text=qC (text.take j)++qC (text.drop j):=by unfold qC;rw[<-qH,EA]
   have hdrop:List.drop (Int.toNat (((qC (text.take j)).length:Nat):Int)) text=text.drop j:=by
    rw[Int.toNat_natCast,hlen];by_cases h:j<=text.length
    .rw[Ci h]
    .rw[Nat.min_eq_right RS,List.drop_length,Hf RS]
   generalize ht':qC (text.take j)=t at hlen hsplit hdrop⊢;have abh:lH t:=ht'▸amB _;have hlit:(v.wY (tail.length:Int) t).l=tail++t++v.l.drop (tail.length+t.length):=by show (Vec.lit 64 (v.l.take (tail.length:Int).toNat++t++v.l.drop ((tail.length:Int).toNat+t.length))).l=_;rw[Int.toNat_natCast,Nu (by rw[hv,eU,eU,qD,v.h];omega),hv]
   have g1:qQ 64 (some (tail.length:Int)) none=true:=decide_eq_true ⟨RS,RS⟩;have g2:iQ (((t.length:Nat)):Int) text.length=true:=z8 ⟨RS,RS⟩;rw[show (!((64:Int)==0))=true from rfl,cond_true,g1,cond_true,g2,cond_true,gP RS RS];have azp:wrap .u64 (c+wrap .u64 (t.length:Int))=(((bs++t).length:Nat):Int):=by rw[UG (x:=(t.length:Int)) RS RS,UG RS RS,hc,eU];omega
   rw[azp,hdrop];have hrl:(text.drop j).length<=k:=uS
   have hnl:(bs++t).length+(text.drop j).length<2^61:=by rw[eU,qD];omega
   cases hfull:((tail.length:Int)+(t.length:Int)==64) with
   |true=>
    have hf:tail.length+t.length=64:=(by have:=eq_of_beq hfull;omega);have hblk:(v.wY (tail.length:Int) t).l=tail++t:=(by rw[hlit,Hf (by rw[v.h];omega),jG]);have MN:lH (tail++t):=BH (azn (hb▸hB)) abh;rw[cond_true,hblk,hcomp uR MN hn];have hs':Ac (bs++t) (zV h (tail++t)) (v.wY (tail.length:Int) t) (((bs++t).length:Nat):Int):=by
     refine⟨q+1,done++(tail++t),[],?_,?_,aG,?_,rfl,rfl,BH hB abh⟩
     .rw[hb,jG,fP]
     .rw[eU,eU,hd];omega
     .rw[azm q Dt done (tail++t) hd uR,hh]
    obtain⟨h',v',c',e1,e2⟩:=ih _ _ _ _ _ m hrl hs' hnl RS;refine⟨h',v',c',e1,?_⟩;rw[hsplit,<-fP];exact e2
   |false=>
    have hf:tail.length+t.length≠64:=fun e=>by have:((tail.length:Int)+(t.length:Int)==64)=true:=(by rw[beq_iff_eq];omega);rw[this] at hfull;cases hfull
    rw[cond_false];have hs':Ac (bs++t) h (v.wY (tail.length:Int) t) (((bs++t).length:Nat):Int):=by
     refine⟨q,done,tail++t,?_,hd,?_,hh,?_,rfl,BH hB abh⟩
     .rw[hb,fP]
     .rw[eU];omega
     .rw[hlit,EH (iR _),List.take_length]
    obtain⟨h',v',c',e1,e2⟩:=ih _ _ _ _ _ m hrl hs' hnl RS;refine⟨h',v',c',e1,?_⟩;rw[hsplit,<-fP];exact e2
theorem abj {n:Nat}{text:List UInt8}{bs:List Int}{h:Vec 8}{v:Vec 64}{c:Int}(hn:70<n)(hs:Ac bs h v c)(hl:bs.length+text.length<2^61)(hm:text.length<n):
 ∃h' v' c',Dy n ((h,(v,c)),text)=some (h',(v',c'))/\Ac (bs++qC text) h' v' c':=by
 obtain⟨h',v',c',e1,e2⟩:=hAdd hn text.length text bs h v c n (iR _) hs hl hm;refine⟨h',v',c',?_,e2⟩;rw[ayK,e1];rfl
theorem amD (c:Int):∀(k:Nat)(i:Int),(Br c k i).length=k
 |0,_=>rfl|k+1,i=>by rw[Br,List.length_cons,amD c k]
theorem abk (x:Int):0<=wrap .u8 x/\wrap .u8 x<256:=by rw[IntKind.wrap_u8];exact⟨Int.emod_nonneg _ aG,Int.emod_lt_of_pos _ aG⟩
theorem amE (c:Int):∀(k:Nat)(i:Int),lH (Br c k i)
 |0,_=>fun x hx=>Ce
 |k+1,i=>fun x hx=>by
  rcases jd.1 hx with rfl|hx
  .exact abk _
  .exact amE c k _ x hx
theorem l7 {a k:Nat}(h:a<2^30)(hk:k<=2^12):cB a k=true:=q9 h hk
theorem azq {n:Nat}{x1:Vec 8}{x2:Vec 64}{c:Nat}(hc:c<2^29):∀(z:Nat)(p:List Int)(m:Nat),(c+p.length+z)% 64=56->z<64->p.length+z<2^20->z<m->Oh n x1 x2 (c:Nat) m p=some (p++List.replicate z 0):=by
 intro z;induction z with
 |zero=>
  intro p m hz h64 hb hm;obtain⟨m,rfl⟩:∃q,m=q+1:=⟨m-1,RS⟩;rw[amc,gP (i:=((c:Nat):Int)) RS RS,gP RS RS,Int.tmod_eq_emod_of_nonneg RS];have:(((c:Nat):Int)+(p.length:Int))% 64=56:=RS
  rw[this];simp
 |succ z ih=>
  intro p m hz h64 hb hm;obtain⟨m,rfl⟩:∃q,m=q+1:=⟨m-1,RS⟩;rw[amc,gP (i:=((c:Nat):Int)) RS RS,gP RS RS,Int.tmod_eq_emod_of_nonneg RS];have:((((c:Nat):Int)+(p.length:Int))% 64 !=56)=true:=by rw[bne_iff_ne];omega
  rw[this,show (!((64:Int)==0))=true from rfl,cond_true,cond_true,l7 dz aG,cond_true,ih (p++[0]) m xX RS xX RS,fP];rfl
theorem azr {n:Nat}{x1:List Int}:∀(z:Nat)(p:List Int)(m:Nat),(p.length+z)% 64=56->z<64->p.length+z<2^29->z<m->Om n x1 m p=some (p++List.replicate z 0):=by
 intro z;induction z with
 |zero=>
  intro p m hz h64 hb hm;obtain⟨m,rfl⟩:∃q,m=q+1:=⟨m-1,RS⟩;rw[amk,Int.tmod_eq_emod_of_nonneg RS];have:(p.length:Int)% 64=56:=RS
  rw[this];simp
 |succ z ih=>
  intro p m hz h64 hb hm;obtain⟨m,rfl⟩:∃q,m=q+1:=⟨m-1,RS⟩;rw[amk,Int.tmod_eq_emod_of_nonneg RS];have:((p.length:Int)% 64 !=56)=true:=by rw[bne_iff_ne];omega
  rw[this,show (!((64:Int)==0))=true from rfl,cond_true,cond_true,l7 dz aG,cond_true,ih (p++[0]) m xX RS xX RS,fP];rfl
theorem hLen {n:Nat}{x1:Vec 8}{x2:Vec 64}{c:Int}:∀(k:Nat)(i:Int)(p:List Int)(m:Nat),i+k=8->0<=i->p.length+k<2^29->k<m->Kc n x1 x2 c m (p,i)=some (p++Br c k i):=by
 intro k;induction k with
 |zero=>intro i p m hi h0 hb hm;obtain⟨m,rfl⟩:∃q,m=q+1:=⟨m-1,RS⟩;rw[amd,decide_eq_false RS,Br,jG];rfl
 |succ k ih=>intro i p m hi h0 hb hm;obtain⟨m,rfl⟩:∃q,m=q+1:=⟨m-1,RS⟩;rw[amd,decide_eq_true (show i<8 by omega),cond_true];rw[decide_eq_true (show (0:Int)<=wrap .i64 (56-wrap .i64 (8*i)) by rw[gP (i:=8*i) RS RS,gP RS RS];omega),cond_true,l7 dz aG,cond_true,vX h0 RS];have:=ih (i+1) (p++[Zy c i]) m RS RS xX RS;rw[fP] at this;exact this
theorem azs {n:Nat}{x1:List Int}(hx:x1.length<2^29):∀(k:Nat)(i:Int)(p:List Int)(m:Nat),i+k=8->0<=i->p.length+k<2^30->k<m->Kg n x1 m (p,i)=some (p++Br (x1.length:Nat) k i):=by
 intro k;induction k with
 |zero=>intro i p m hi h0 hb hm;obtain⟨m,rfl⟩:∃q,m=q+1:=⟨m-1,RS⟩;rw[aml,decide_eq_false RS,Br,jG];rfl
 |succ k ih=>intro i p m hi h0 hb hm;obtain⟨m,rfl⟩:∃q,m=q+1:=⟨m-1,RS⟩;rw[aml,decide_eq_true (show i<8 by omega),cond_true];rw[decide_eq_true (show (0:Int)<=wrap .i64 (56-wrap .i64 (8*i)) by rw[gP (i:=8*i) RS RS,gP RS RS];omega),cond_true,l7 dz aG,cond_true,vX h0 RS,UG (x:=(x1.length:Int)) RS RS];have:=ih (i+1) (p++[Zy (x1.length:Nat) i]) m RS RS xX RS;rw[fP] at this;exact this
theorem abl (c:Nat):(c+1+zpad c)% 64=56/\zpad c<64:=by unfold zpad;omega
theorem UH (c:Nat):(xE c).length=1+zpad c+8:=by unfold xE;simp only[eU,List.length_singleton,List.length_replicate,amD]
theorem amF (c:Nat):lH (xE c):=by
 refine BH (BH ?_ ?_) (amE _ _ _)
 .intro x hx;rw[jq.1 hx];decide
 .intro x hx;rw[(List.mem_replicate.1 hx).2];decide
theorem azt {n:Nat}{b:List Int}(hb:b.length<2^28)(hn:100<n):N8 n b=some (b++xE b.length):=by obtain⟨h1,h2⟩:=abl b.length;rw[ayS,l7 RS aG,cond_true,l7 dz aG,cond_true];rw[List.nil_append,azr (zpad b.length) (b++[128]) n (by rw[eU,List.length_singleton];exact h1) h2 xX RS];show (Kg n b n (b++[128]++List.replicate (zpad b.length) 0,0)).bind _=_;rw[azs RS 8 0 _ n aG aG (by simp only[eU,List.length_singleton,List.length_replicate];omega) RS];unfold xE;simp only[Option.bind_some,fP]
theorem azu {n:Nat}{r:List Int}(hB:lH r)(hr:r.length<2^29)(hn:100<n):∀(k j:Nat)(h:Vec 8)(m:Nat),j+64*k=r.length->k<m->Kk n r m ((j:Nat),h)=some ((),Bq k h (r.drop j)):=by
 intro k;induction k with
 |zero=>intro j h m hj hm;obtain⟨m,rfl⟩:∃q,m=q+1:=⟨m-1,RS⟩;rw[amr,decide_eq_false RS];rfl
 |succ k ih=>
  intro j h m hj hm;obtain⟨m,rfl⟩:∃q,m=q+1:=⟨m-1,RS⟩;rw[amr,decide_eq_true RS,cond_true,gP (i:=((j:Nat):Int)+64) RS RS,z8 (i:=((j:Nat):Int)+64) ⟨RS,RS⟩,z8 (i:=((j:Nat):Int)) ⟨RS,RS⟩,Bool.and_self,cond_true];have hcut:List.drop (Int.toNat ((j:Nat):Int)) (List.take (Int.toNat (((j:Nat):Int)+64)) r)=(r.drop j).take 64:=by rw[Int.toNat_natCast,show Int.toNat (((j:Nat):Int)+64)=j+64 by omega,List.drop_take,AB]
  have hw:=azh (n:=n) (x:=(r.drop j).take 64) (by rw[nA,qD];omega) RS;rw[<-hcut] at hw;refine bs hw ?_;rw[hcut];show ((Ki n r (j:Nat) h (F3 ((r.drop j).take 64)) n (0,h)).bind _)=_;rw[azj 64 0 h n aG aG RS];show ((Kj n r (j:Nat) ((),ou (NK (F3 ((r.drop j).take 64))) 64 0 h) n (0,h)).bind _)=_;rw[azl 8 0 h n aG aG RS];have:=ih (j+64) (zV h ((r.drop j).take 64)) m RS RS;rw[<-List.drop_drop] at this;exact this
theorem amG {i:Int}(h0:0<=i)(h1:i<32):dJ (wrap .i64 (Int.tdiv i 4)) 8=true/\decide ((0:Int)<=wrap .i64 (24-wrap .i64 (8*Int.tmod i 4)))=true:=by rw[Int.tdiv_eq_ediv_of_nonneg h0,Int.tmod_eq_emod_of_nonneg h0,gP (i:=i/4) RS RS,gP (i:=8*(i% 4)) RS RS,gP RS RS];exact⟨oL ⟨RS,RS⟩,decide_eq_true RS⟩
theorem hOut {n:Nat}{bG:(Vec 8)×(Vec 64)×Int}:∀(k:Nat)(i:Int)(o:Vec 32)(m:Nat),i+k=32->0<=i->k<m->Ke n bG m (i,o)=some ((),ou (NM bG.1) k i o):=by
 intro k;induction k with
 |zero=>intro i s m hi h0 hm;obtain⟨m,rfl⟩:∃q,m=q+1:=⟨m-1,RS⟩;rw[ame,decide_eq_false RS];rfl
 |succ k ih=>intro i s m hi h0 hm;obtain⟨m,rfl⟩:∃q,m=q+1:=⟨m-1,RS⟩;obtain⟨g1,g2⟩:=amG h0 (show i<32 by omega);rw[ame,decide_eq_true (show i<32 by omega),cond_true,g1,g2,oL (i:=i) (n:=32) ⟨RS,RS⟩,vX RS RS];exact ih (i+1) _ m RS RS RS
theorem azv {n:Nat}{h:Vec 8}:∀(k:Nat)(i:Int)(o:Vec 32)(m:Nat),i+k=32->0<=i->k<m->Kl n ((),h) m (i,o)=some ((),ou (NM h) k i o):=by
 intro k;induction k with
 |zero=>intro i s m hi h0 hm;obtain⟨m,rfl⟩:∃q,m=q+1:=⟨m-1,RS⟩;rw[ams,decide_eq_false RS];rfl
 |succ k ih=>intro i s m hi h0 hm;obtain⟨m,rfl⟩:∃q,m=q+1:=⟨m-1,RS⟩;obtain⟨g1,g2⟩:=amG h0 (show i<32 by omega);rw[ams,decide_eq_true (show i<32 by omega),cond_true,g1,g2,oL (i:=i) (n:=32) ⟨RS,RS⟩,vX RS RS];exact ih (i+1) _ m RS RS RS
theorem azw {n:Nat}{b:List Int}(hB:lH b)(hb:b.length<2^28)(hbn:b.length<n)(hn:100<n):Oc n b=some (F4 b):=by
 obtain⟨h1,h2⟩:=abl b.length;rw[ayV,azt hb hn];have hl:(b++xE b.length).length=b.length+(1+zpad b.length+8):=by rw[eU,UH]
 show (Kk n (b++xE b.length) n (((0:Nat):Int),Dt)).bind _=_;rw[azu (BH hB (amF _)) RS hn ((b.length+(1+zpad b.length+8))/64) 0 Dt n RS RS];show ((Kl n ((),Bq _ Dt (b++xE b.length)) n (0,Vec.rep 32 0)).bind _)=_;rw[azv 32 0 _ n aG aG RS];rfl
theorem azx {n:Nat}{b:List Int}{h:Vec 8}{v:Vec 64}{c:Int}(hs:Ac b h v c)(hb:b.length<2^28)(hn:200<n):NW n (h,(v,c))=some (F4 b):=by
 obtain⟨h1,h2⟩:=abl b.length;have hc:c=(b.length:Int):=by obtain⟨_,_,_,_,_,_,_,_,e,_⟩:=hs;exact e
 have hB:lH b:=by obtain⟨_,_,_,_,_,_,_,_,_,e⟩:=hs;exact e
 subst hc;rw[ayN,azq RS (zpad b.length) [128] n (by rw[List.length_singleton];exact h1) h2 (by rw[List.length_singleton];omega) RS];show (Kc n h v (b.length:Nat) n ([128]++List.replicate (zpad b.length) 0,0)).bind _=_;rw[hLen 8 0 _ n aG aG (by simp only[eU,List.length_singleton,List.length_replicate];omega) RS];obtain⟨h',v',c',e1,e2⟩:=abj (n:=n) (text:=l6 (xE b.length)) RS hs (by rw[DN,UH];omega) (by rw[DN,UH];omega);show ((Dy n ((h,(v,(b.length:Int))),l6 (xE b.length))).bind _)=_;rw[e1];show ((Ke n (h',(v',c')) n (0,Vec.rep 32 0)).bind _)=_;rw[hOut 32 0 _ n aG aG RS];rw[abg (amF _)] at e2;obtain⟨q,done,tail,hb',hd,htl,hh,_,_,_⟩:=e2;have hlen:(b++xE b.length).length=64*q+tail.length:=by rw[hb',eU,hd]
 rw[eU,UH] at hlen;have ht:tail=[]:=qg RS;subst ht;rw[jG] at hb';have hq:(b.length+(1+zpad b.length+8))/64=q:=by rw[List.length_nil] at hlen;omega
 show some (Zz h')=some (F4 b);unfold F4;rw[hq,hb',hh]
end Sh
end
section
open Go Go.Proofs aR
namespace Sh
set_option maxRecDepth 100000
theorem azy (n:Nat)(r:List Int):Od n r=(Oc n r).bind fun h=>some (TV h):=av
end Sh
end
section
open Go Go.Proofs aR
namespace Sh
theorem azz {z:Int}(h0:0<=z):mJ .u8 (wrap .u8 z) 128=z% 128+128:=by
 have h1:wrap .u8 z=z% 256:=by rw[IntKind.wrap_u8]
 rw[h1];have key:∀a:Nat,a<256->mJ .u8 ((a:Nat):Int) 128=((a% 128+128:Nat):Int):=by
  intro a ha;have:∀a:Fin 256,mJ .u8 ((a.val:Nat):Int) 128=((a.val% 128+128:Nat):Int):=G5
  exact this ⟨a,ha⟩
 have h2:z% 256=(((z% 256).toNat:Nat):Int):=RS
 rw[h2,key _ RS];omega
theorem UJ {x:Int}(h0:0<=x)(h1:x<2^64):wrap .u64 x=x:=LG
theorem amH {n:Nat}:∀(k:Nat)(z:Int)(p:List Int)(m:Nat),0<=z->z<128^k->z<2^64->p.length+k<2^20->k<=m->0<k->∃q y,Ka n m (z,p)=some (y,p++q)/\DJ n m (z,p)=some (y,p++q)/\q++[y]=Bt k z/\q.length<k/\0<=y/\y<128:=by
 intro k;induction k with
 |zero=>intro z p m _ _ _ _ _ h;omega|succ k ih=>
  intro z p m h0 h1 h64 hp hm _;obtain⟨m,rfl⟩:∃q,m=q+1:=⟨m-1,RS⟩;by_cases hz:z>=128
  .have hk:0<k:=by
    rcases Nat.eq_zero_or_pos k with rfl|h
    .have:z<128:=GZ;omega
    .exact h
   have hd:z/128<128^k:=by rw[Int.pow_succ] at h1;exact Int.ediv_lt_of_lt_mul aG h1
   obtain⟨q,y,e1,e2,e3,e4,e5⟩:=ih (z/128) (p++[z% 128+128]) m RS hd RS xX RS hk;obtain⟨s0,s1⟩:=ay1 h0;refine⟨(z% 128+128)::q,y,?_,?_,?_,?_,e5⟩
   .rw[amb,decide_eq_true (show z>127 by omega),cond_true,l7 dz aG,cond_true,azz h0,s1];rw[fP] at e1;exact e1
   .rw[aa9,decide_eq_true hz,cond_true,show (!((128:Int)==0))=true from rfl,cond_true,l7 dz aG,cond_true,cond_true];rw[Int.tmod_eq_emod_of_nonneg h0,amv h0,UJ RS RS];have hw:wrap .u8 (wrap .u8 (z% 128)+128)=z% 128+128:=(by rw[IntKind.wrap_u8,IntKind.wrap_u8];omega);rw[hw];rw[fP] at e2;exact e2
   .rw[Bt,if_pos hz,<-e3];rfl
   .simp;omega
  .refine⟨[],z,?_,?_,?_,aD,h0,RS⟩
   .rw[amb,decide_eq_false (show¬z>127 by omega),jG];rfl
   .rw[aa9,decide_eq_false hz,jG];rfl
   .rw[Bt,if_neg hz];rfl
def rI (x:Int):Prop:= -(2^63)<=x/\x<2^63
theorem abm {x:Int}(h:rI x):0<=vR x/\vR x<2^64:=by unfold vR;unfold rI at h;split<;>omega
theorem azA {a:Int}(h0:0<=a)(h1:a<2^64):dV .u64 a 0=a:=by
 unfold dV;obtain⟨c,rfl⟩:∃c:Nat,a=(c:Int):=⟨a.toNat,(G9 h0).symm⟩;have hc:c<2^64:=by exact_mod_cast h1
 have e:(BitVec.ofInt IntKind.u64.bits (c:Int)^^^BitVec.ofInt IntKind.u64.bits 0).toNat=c:=by show (BitVec.ofInt 64 (c:Int)^^^0#64).toNat=_;rw[BitVec.xor_zero,BitVec.ofInt_natCast,BitVec.toNat_ofNat,Ez hc]
 rw[e];exact UJ h0 h1
theorem azB {a:Int}(h0:0<=a)(h1:a<2^64):dV .u64 a (2^64-1)=2^64-1-a:=by
 unfold dV;obtain⟨c,rfl⟩:∃c:Nat,a=(c:Int):=⟨a.toNat,(G9 h0).symm⟩;have hc:c<2^64:=by exact_mod_cast h1
 have e:(BitVec.ofInt IntKind.u64.bits (c:Int)^^^BitVec.ofInt IntKind.u64.bits (2^64-1)).toNat=2^64-1-c:=by show (BitVec.ofInt 64 (c:Int)^^^BitVec.ofInt 64 (2^64-1)).toNat=_;rw[show BitVec.ofInt 64 (2^64-1)=BitVec.allOnes 64 by decide,BitVec.xor_allOnes,BitVec.toNat_not,BitVec.ofInt_natCast,BitVec.toNat_ofNat,Ez hc]
 rw[e,IntKind.wrap_u64];omega
theorem azC {x:Int}(h:rI x):dV .u64 (ji .u64 (wrap .u64 x) 1) (wrap .u64 (gq .i64 x 63))=vR x:=by
 obtain⟨a,b⟩:=h;have hs:ji .u64 (wrap .u64 x) 1=wrap .u64 (wrap .u64 x*2):=rfl;have hr:gq .i64 x 63=x.fdiv (2^63):=rfl;rw[hs,hr,Int.fdiv_eq_ediv_of_nonneg _ aG];unfold vR;by_cases hx:x<0
 .rw[if_pos hx,show x/2^63= -1 by omega,show wrap .u64 (-1)=2^64-1 by rw[IntKind.wrap_u64];decide];have:wrap .u64 (wrap .u64 x*2)=2*x+2^64:=by rw[IntKind.wrap_u64,IntKind.wrap_u64];omega
  rw[this,azB RS RS];omega
 .rw[if_neg hx,show x/2^63=0 by omega,UJ (x:=x) RS RS,UJ (x:=x*2) RS RS,show wrap .u64 0=0 by rw[IntKind.wrap_u64];decide,azA RS RS];omega
theorem amI:∀(k:Nat)(z:Int),0<=z->lH (Bt k z)
 |0,_,_=>fun x hx=>Ce
 |k+1,z,h=>by
  unfold Bt;split
  .intro x hx;rcases jd.1 hx with rfl|hx
   .omega
   .exact amI k _ RS x hx
  .intro x hx;rw[jq.1 hx];omega
theorem azD {x:Int}(h:rI x):lH (encI x):=amI 10 _ (abm h).1
theorem amJ:∀(k:Nat)(z:Int),(Bt k z).length<=k
 |0,_=>iR _|k+1,z=>by
  unfold Bt;split
  .rw[List.length_cons];have:=amJ k (z/128);omega
  .simp
theorem xI (x:Int):(encI x).length<=10:=amJ _ _
theorem abn {y:Int}(h0:0<=y)(h1:y<128):wrap .u8 y=y:=by rw[IntKind.wrap_u8];omega
theorem Ou {n:Nat}{x:Int}(h:rI x)(hn:20<n):yR n x=some (encI x):=by obtain⟨z0,z1⟩:=abm h;obtain⟨q,y,e1,_,e3,e4,e5,e6⟩:=amH (n:=n) 10 (vR x) [] n z0 (Int.lt_of_lt_of_le z1 aG) z1 aG RS aG;rw[ayL,azC h];show ((Ka n n (vR x,[])).bind _)=_;rw[e1,List.nil_append,Option.bind_some];rw[l7 (by show q.length+1<_;omega) aG,cond_true,abn e5 e6,e3];rfl
theorem Ov {n:Nat}{x:Int}(h:rI x)(hn:20<n):QR n x=some (encI x):=by
 obtain⟨z0,z1⟩:=abm h;obtain⟨q,y,_,e1,e3,e4,e5,e6⟩:=amH (n:=n) 10 (vR x) [] n z0 (Int.lt_of_lt_of_le z1 aG) z1 aG RS aG;obtain⟨a,b⟩:=h;rw[amh];by_cases hx:x<0
 .have hz:wrap .u64 (wrap .u64 (wrap .u64 (wrap .i64 (-1-x))*2)+1)=vR x:=by unfold vR;rw[if_pos hx,IntKind.wrap_i64,IntKind.wrap_u64,IntKind.wrap_u64,IntKind.wrap_u64];omega
  rw[decide_eq_true hx,cond_true,hz,e1,List.nil_append,Option.bind_some];rw[l7 (by show q.length+1<_;omega) aG,cond_true,abn e5 e6,e3];rfl
 .have hz:wrap .u64 (wrap .u64 x*2)=vR x:=by unfold vR;rw[if_neg hx,IntKind.wrap_u64,IntKind.wrap_u64];omega
  rw[decide_eq_false hx,cond_false,hz,e1,List.nil_append,Option.bind_some];rw[l7 (by show q.length+1<_;omega) aG,cond_true,abn e5 e6,e3];rfl
theorem gR {U:Type}{c:Bool}{o r:Option U}(h:c=true)(k:o=r):(bif c then o else none)=r:=Eu
theorem BI {k:Nat}(h:k<2^62):rI ((k:Nat):Int):=Q7
theorem amK {s:List UInt8}(h:s.length<2^62):lH (fC s):=BH (azD (BI h)) (amB _)
theorem Ow (s:List UInt8):(fC s).length<=s.length+10:=by unfold fC;rw[eU,amC];have:=xI (s.length:Int);omega
theorem amL {n:Nat}{s:List UInt8}(h:s.length<2^29)(hn:20<n):JX n s=some (fC s):=by have hl:=xI (s.length:Int);rw[ayM];exact bs (Ou (BI RS) hn) (gR (l7 (by rw[fF];omega) aG) rfl)
theorem amM {n:Nat}{s:List UInt8}(h:s.length<2^29)(hn:20<n):Gd n s=some (fC s):=by have hl:=xI (s.length:Int);rw[ami];exact bs (Ov (BI RS) hn) (gR (l7 (by rw[fF];omega) aG) rfl)
def jD {U:Type}(f:U->List Int)(l:List U):Nat:=l.foldr (fun x s=>(f x).length+s) 0
theorem Ox {U:Type}(f:U->List Int):∀l:List U,(l.flatMap f).length=jD f l
 | []=>rfl|x::l=>by rw[lu,eU,Ox f l];rfl
theorem Ko {U:Type}{f:U->List Int}{b:Nat}:∀{l:List U},(∀x∈l,(f x).length<=b)->jD f l<=b*l.length
 | [],_=>oZ _|x::l,h=>by have h1:=h x aD;have h2:=Ko (f:=f) (l:=l) fun y hy=>h y (kQ _ hy);show (f x).length+jD f l<=b*(l.length+1);rw[Nat.mul_add,Nat.mul_one];omega
theorem azE {n:Nat}{l:List Int}(hb:∀x∈l,rI x)(hlen:l.length<2^62)(hn:20<n):∀(k i m:Nat)(a:List Int),i+k=l.length->k<m->a.length+jD encI (l.drop i)<2^29->Oj n l m (a,(i:Int))=some (a++(l.drop i).flatMap encI):=by
 intro k;induction k with
 |zero=>intro i m a hi hm hc;obtain⟨m,rfl⟩:∃m',m=m'+1:=⟨m-1,RS⟩;rw[amg,l5 RS,nE RS,List.flatMap_nil,jG];rfl
 |succ k ih=>
  intro i m a hi hm hc;obtain⟨m,rfl⟩:∃m',m=m'+1:=⟨m-1,RS⟩;have hlt:i<l.length:=RS
  have hx:l[i]? =some l[i]:=fA hlt;have hd:l.drop i=l[i]::l.drop (i+1):=nY hlt;rw[hd] at hc⊢;have hm':=hb l[i] (lq hlt);generalize l[i]=x at hx hc hm'⊢;rw[amg,iG hx,eH hx,fK RS,cond_true];have hsz:jD encI (x::l.drop (i+1))=(encI x).length+jD encI (l.drop (i+1)):=rfl;have h:=ih (i+1) m (a++encI x) RS RS uR;rw[fP] at h;exact bs rfl (bs (Ou hm' hn) (gR (l7 RS aG) h))
theorem azF {n:Nat}{l:List Int}(hb:∀x∈l,rI x)(hlen:l.length<2^62)(hn:20<n):∀(k i m:Nat)(a:List Int),i+k=l.length->k<m->a.length+jD encI (l.drop i)<2^29->Km n l m (a,(i:Int))=some (a++(l.drop i).flatMap encI):=by
 intro k;induction k with
 |zero=>intro i m a hi hm hc;obtain⟨m,rfl⟩:∃m',m=m'+1:=⟨m-1,RS⟩;rw[Uu,l5 RS,nE RS,List.flatMap_nil,jG];rfl
 |succ k ih=>
  intro i m a hi hm hc;obtain⟨m,rfl⟩:∃m',m=m'+1:=⟨m-1,RS⟩;have hlt:i<l.length:=RS
  have hx:l[i]? =some l[i]:=fA hlt;have hd:l.drop i=l[i]::l.drop (i+1):=nY hlt;rw[hd] at hc⊢;have hm':=hb l[i] (lq hlt);generalize l[i]=x at hx hc hm'⊢;rw[Uu,iG hx,eH hx,fK RS,cond_true];have hsz:jD encI (x::l.drop (i+1))=(encI x).length+jD encI (l.drop (i+1)):=rfl;have h:=ih (i+1) m (a++encI x) RS RS uR;rw[fP] at h;exact bs rfl (bs (Ov hm' hn) (gR (l7 RS aG) h))
def DR (l:List Int):List Int:=encI (l.length:Nat)++l.flatMap encI
def DT (l:List (List UInt8)):List Int:=encI (l.length:Nat)++l.flatMap fC
theorem amN {U:Type}{f:U->List Int}:∀{l:List U},(∀x∈l,lH (f x))->lH (l.flatMap f)
 | [],_=>fun x hx=>Ce
 |x::l,h=>by rw[lu];exact BH (h x aD) (amN fun y hy=>h y (kQ _ hy))
theorem abo {l:List Int}:(DR l).length<=10+10*l.length:=by unfold DR;rw[eU,Ox];have h1:=xI (l.length:Int);have h2:=Ko (f:=encI) (b:=10) (l:=l) fun x _=>xI x;omega
theorem abp {l:List (List UInt8)}{b:Nat}(h:∀x∈l,x.length<=b):(DT l).length<=10+(b+10)*l.length:=by
 unfold DT;rw[eU,Ox];have h1:=xI (l.length:Int);have h2:=Ko (f:=fC) (b:=b+10) (l:=l) fun x hx=>by have:=Ow x;have:=h x hx;omega
 omega
theorem azG {n:Nat}{l:List Int}(hb:∀x∈l,rI x)(hl:l.length<2^20)(hn:l.length<n)(hn2:20<n):Gc n l=some (DR l):=by have h1:=xI (l.length:Int);have h2:=Ko (f:=encI) (b:=10) (l:=l) fun x _=>xI x;rw[ayQ];refine bs (?_:_=some (DR l)) rfl;rw[ayP];exact bs (Ou (BI RS) hn2) (bs (azE hb RS hn2 l.length 0 n _ RS hn LV) rfl)
theorem azH {n:Nat}{l:List Int}(hb:∀x∈l,rI x)(hl:l.length<2^20)(hn:l.length<n)(hn2:20<n):DC n l=some (DR l):=by have h1:=xI (l.length:Int);have h2:=Ko (f:=encI) (b:=10) (l:=l) fun x _=>xI x;rw[amt];exact bs (Ov (BI RS) hn2) (bs (azF hb RS hn2 l.length 0 n _ RS hn LV) rfl)
theorem azI (n:Nat):∃v,NS n ()=some (Dt,(v,(0:Int))):=by rw[ayF];exact⟨_,rfl⟩
theorem azJ {n:Nat}{ls:List (List UInt8)}(hb:∀x∈ls,x.length<2^28)(hlen:ls.length<2^62)(hn:70<n):∀(k i m:Nat)(b:List Int)(h:Vec 8)(v:Vec 64)(c:Int),i+k=ls.length->k<m->Ac b h v c->b.length+jD fC (ls.drop i)<2^28->jD fC (ls.drop i)<n->
 ∃h' v' c',Oi n ls m ((i:Int),(h,(v,c)))=some ((),(h',(v',c')))/\Ac (b++(ls.drop i).flatMap fC) h' v' c':=by
 intro k;induction k with
 |zero=>
  intro i m b h v c hi hm hs _ _;obtain⟨m,rfl⟩:∃m',m=m'+1:=⟨m-1,RS⟩;refine⟨h,v,c,?_,?_⟩
  .rw[amf,l5 RS];rfl
  .rw[nE RS,List.flatMap_nil,jG];exact hs
 |succ k ih=>
  intro i m b h v c hi hm hs hsz amO;obtain⟨m,rfl⟩:∃m',m=m'+1:=⟨m-1,RS⟩;have hlt:i<ls.length:=RS
  have hx:ls[i]? =some ls[i]:=fA hlt;have hd:ls.drop i=ls[i]::ls.drop (i+1):=nY hlt;rw[hd] at hsz amO⊢;have hm':=hb ls[i] (lq hlt);generalize ls[i]=x at hx hsz amO hm'⊢;have e:jD fC (x::ls.drop (i+1))=(fC x).length+jD fC (ls.drop (i+1)):=rfl;have hB:lH (fC x):=amK RS;obtain⟨h1,v1,c1,g1,g2⟩:=abj (n:=n) (text:=l6 (fC x)) hn hs (by rw[DN];omega) (by rw[DN];omega);rw[abg hB] at g2;obtain⟨h2,v2,c2,g3,g4⟩:=ih (i+1) m (b++fC x) h1 v1 c1 RS RS g2 uR RS;refine⟨h2,v2,c2,?_,?_⟩
  .rw[amf,iG hx,eH hx,fK RS,cond_true];exact bs rfl (bs (amL RS RS) (bs g1 g3))
  .rw[lu,<-fP];exact g4
theorem azK (t:Int){ls:List (List UInt8)}(hb:∀x∈ls,x.length<2^28):lH (JF t ls):=
 BH (fun x hx=>by rw[jq.1 hx];exact abk t) (amN fun x hx=>amK (by have:=hb x hx;omega))
theorem Oy {n:Nat}{t:Int}{ls:List (List UInt8)}(hb:∀x∈ls,x.length<2^28)(hs:1+jD fC ls<2^28)(hsn:jD fC ls<n)(hl:ls.length<n)(hn:200<n)(hlen:ls.length<2^62):Dz n (t,ls)=some (jk t ls):=by
 rw[ayO];obtain⟨v,hv⟩:=azI n;have s0:Ac [] Dt v 0:=⟨0,[],[],rfl,rfl,aG,rfl,rfl,rfl,fun x hx=>Ce⟩;have hB1:lH [wrap .u8 t]:=fun x hx=>by rw[jq.1 hx];exact abk t
 obtain⟨h1,v1,c1,g1,g2⟩:=abj (n:=n) (text:=l6 [wrap .u8 t]) RS s0 (by rw[DN];simp) (by rw[DN];simp;omega);rw[abg hB1,List.nil_append] at g2;obtain⟨h2,v2,c2,g3,g4⟩:=azJ (n:=n) hb hlen RS ls.length 0 n _ h1 v1 c1 RS hl g2 (by rw[qd,List.length_singleton];exact hs) (by rw[qd];exact hsn);rw[qd] at g4;have g5:=azx (n:=n) g4 (by rw[eU,List.length_singleton,Ox];exact hs) hn;refine bs hv (bs g1 (bs g3 ?_));refine bs g5 ?_;exact gR aG (gR aG rfl)
theorem azL {n:Nat}{ls:List (List UInt8)}(hb:∀x∈ls,x.length<2^28)(hlen:ls.length<2^62)(hn:20<n):∀(k i m:Nat)(a:List Int),i+k=ls.length->k<m->a.length+jD fC (ls.drop i)<2^29->Ol n ls m (a,(i:Int))=some (a++(ls.drop i).flatMap fC):=by
 intro k;induction k with
 |zero=>intro i m a hi hm hc;obtain⟨m,rfl⟩:∃m',m=m'+1:=⟨m-1,RS⟩;rw[amj,l5 RS,nE RS,List.flatMap_nil,jG];rfl
 |succ k ih=>
  intro i m a hi hm hc;obtain⟨m,rfl⟩:∃m',m=m'+1:=⟨m-1,RS⟩;have hlt:i<ls.length:=RS
  have hx:ls[i]? =some ls[i]:=fA hlt;have hd:ls.drop i=ls[i]::ls.drop (i+1):=nY hlt;rw[hd] at hc⊢;have hm':=hb ls[i] (lq hlt);generalize ls[i]=x at hx hc hm'⊢;rw[amj,iG hx,eH hx,fK RS,cond_true];have hsz:jD fC (x::ls.drop (i+1))=(fC x).length+jD fC (ls.drop (i+1)):=rfl;have h:=ih (i+1) m (a++fC x) RS RS uR;rw[fP] at h;exact bs rfl (bs (amM RS hn) (gR (l7 RS aG) h))
theorem abq {n:Nat}{t:Int}{ls:List (List UInt8)}(hb:∀x∈ls,x.length<2^28)(hs:1+jD fC ls<2^28)(hsn:1+jD fC ls<n)(hl:ls.length<n)(hn:200<n)(hlen:ls.length<2^62):Gg n (t,ls)=some (jk t ls):=by
 rw[ayW];have h1:NZ n (t,ls)=some (JF t ls):=by rw[ayR];refine bs (azL hb hlen RS ls.length 0 n _ RS hl (by rw[qd,List.length_singleton];omega)) ?_;rw[qd];rfl
 have aHn:(JF t ls).length=1+jD fC ls:=by unfold JF;rw[eU,List.length_singleton,Ox]
 have h2:Od n (JF t ls)=some (jk t ls):=by rw[azy,azw (azK t hb) RS RS RS];rfl
 exact bs h1 (bs h2 rfl)
end Sh
end
section
open Go Go.Proofs aR
namespace Sh
set_option maxRecDepth 100000
attribute [local irreducible] jk
theorem UK {n:Nat}(h:2<=n):1<=iZ n/\iZ n<n:=by have h1:2^Nat.log2 (n-1)<=n-1:=Nat.log2_self_le RS;have h2:0<2^Nat.log2 (n-1):=Nat.pow_pos aG;unfold iZ;omega
theorem azM:∀i:Fin 256,1<=i.val->xH[i.val]? =some (UInt8.ofNat (Nat.log2 i.val+1)):=G5
theorem abr {x:Nat}(h1:1<=x)(h2:x<256):aH xH (wrap .u8 ((x:Nat):Int))=some (UInt8.ofNat (Nat.log2 x+1)):=by
 have hw:wrap .u8 ((x:Nat):Int)=((x:Nat):Int):=by rw[IntKind.wrap_u8];omega
 have hl:xH.length=256:=G5
 rw[hw];unfold aH;rw[if_pos ⟨RS,by rw[hl];omega⟩,Int.toNat_natCast];exact azM ⟨x,h2⟩ h1
theorem abt {x:Nat}(h1:1<=x)(h2:x<256):Nat.log2 x<8:=(Nat.log2_lt RS).2 RS
theorem abu {x:Nat}(h:256<=x):Nat.log2 x=8+Nat.log2 (x/256):=by
 have hx:x/256≠0:=RS
 apply Nat.le_antisymm
 .apply Nat.le_of_lt_succ;rw[Nat.log2_lt RS];have h1:x/256<2^(Nat.log2 (x/256)+1):=Nat.lt_log2_self;have h2:2^(8+Nat.log2 (x/256)).succ=256*2^(Nat.log2 (x/256)+1):=by rw[Nat.succ_eq_add_one,oV,Nat.pow_add]
  rw[h2];omega
 .rw[Nat.le_log2 RS,Nat.pow_add];have h1:2^Nat.log2 (x/256)<=x/256:=Nat.log2_self_le hx;have:2^8*2^Nat.log2 (x/256)<=2^8*(x/256):=Nat.mul_le_mul_left _ h1;omega
theorem azN {n x:Nat}(h1:1<=x)(h2:x<65536):DF n ((x:Nat):Int)=some ((Nat.log2 x+1:Nat):Int):=by
 rw[Uv];refine lG (decide_eq_false RS) (lG (decide_eq_false RS) ?_);by_cases h:256<=x
 .have hl:=abu h;have hs:=abt (x:=x/256) RS RS;refine iU (decide_eq_true RS) ?_;refine gR aG ?_;have hsh:gq .u64 ((x:Nat):Int) 8=((x/256:Nat):Int):=by show Int.fdiv ((x:Nat):Int) (2^8)=_;rw[Int.fdiv_eq_ediv_of_nonneg _ aG];omega
  rw[hsh,abr RS RS];show some _=_;congr 1;rw[UInt8.toNat_ofNat_of_lt' (show Nat.log2 (x/256)+1<256 by omega),hl];rw[IntKind.wrap_i64,IntKind.wrap_i64,IntKind.wrap_i64];omega
 .have hs:=abt (x:=x) RS RS;refine lG (decide_eq_false RS) ?_;rw[abr RS RS];show some _=_;congr 1;rw[UInt8.toNat_ofNat_of_lt' (show Nat.log2 x+1<256 by omega)];rw[IntKind.wrap_i64,IntKind.wrap_i64];omega
theorem amP {x k:Nat}(h:2^k<=x):Nat.log2 x=k+Nat.log2 (x/2^k):=by
 have hk:0<2^k:=Nat.pow_pos aG;have hx:x/2^k≠0:=by have:=Nat.div_pos h hk;omega
 have hx0:x≠0:=RS
 apply Nat.le_antisymm
 .apply Nat.le_of_lt_succ;rw[Nat.log2_lt hx0];have h1:x/2^k<2^(Nat.log2 (x/2^k)+1):=Nat.lt_log2_self;have h2:2^(k+Nat.log2 (x/2^k)).succ=2^(Nat.log2 (x/2^k)+1)*2^k:=by rw[Nat.succ_eq_add_one,oV,Nat.pow_add,uV]
  rw[h2];exact(Nat.div_lt_iff_lt_mul hk).1 h1
 .rw[Nat.le_log2 hx0,Nat.pow_add];have h1:2^Nat.log2 (x/2^k)<=x/2^k:=Nat.log2_self_le hx;have h2:2^k*2^Nat.log2 (x/2^k)<=2^k*(x/2^k):=Nat.mul_le_mul_left _ h1;exact eX h2 (Nat.mul_div_le ..)
theorem UL (x k:Nat)(hk:k<=64):gq .u64 ((x:Nat):Int) ((k:Nat):Int)=((x/2^k:Nat):Int):=by show Int.fdiv ((x:Nat):Int) (2^min (((k:Nat):Int)).toNat 64)=_;rw[Int.toNat_natCast,Ci hk,Int.fdiv_eq_ediv_of_nonneg _ (by exact Int.le_of_lt (Int.pow_pos aG))];rw[Int.natCast_ediv];congr 1
theorem UM {y a:Nat}(h1:1<=y)(h2:y<256)(ha:a<=64):(aH xH (wrap .u8 ((y:Nat):Int))).bind (fun (r2:UInt8)=>some (wrap .i64 (((a:Nat):Int)+wrap .i64 (r2.toNat:Int))))=some ((a+Nat.log2 y+1:Nat):Int):=by have hs:=abt h1 h2;rw[abr h1 h2];show some _=_;congr 1;rw[UInt8.toNat_ofNat_of_lt' (show Nat.log2 y+1<256 by omega)];simp only[IntKind.wrap_i64];omega
theorem azO {n x:Nat}(h1:4294967296<=x)(h2:x<2^41):DF n ((x:Nat):Int)=some ((Nat.log2 x+1:Nat):Int):=by
 rw[Uv];have hl:=amP (x:=x) (k:=32) RS;have hy1:1<=x/2^32:=RS
 have hy2:x/2^32<512:=RS
 have azP:gq .u64 ((x:Nat):Int) (32:Int)=((x/2^32:Nat):Int):=UL x 32 aG;rw[iU (decide_eq_true RS) rfl,iU aG rfl,azP];generalize x/2^32=y at hl hy1 hy2;rw[lG (decide_eq_false RS) rfl];by_cases h8:256<=y
 .have abv:=abu h8;have s8:gq .u64 ((y:Nat):Int) (8:Int)=((y/2^8:Nat):Int):=UL y 8 aG;rw[iU (decide_eq_true RS) rfl,iU aG rfl,s8,show wrap .i64 ((32:Int)+(8:Int))=((40:Nat):Int) by decide];refine(UM RS RS aG).trans ?_;rw[hl,abv,show y/2^8=y/256 by omega];congr 2;omega
 .rw[lG (decide_eq_false RS) rfl,show (32:Int)=((32:Nat):Int) from rfl];refine(UM RS RS aG).trans ?_;rw[hl]
theorem azQ {n x:Nat}(h1:65536<=x)(h2:x<4294967296):DF n ((x:Nat):Int)=some ((Nat.log2 x+1:Nat):Int):=by
 rw[Uv];have hl:=amP (x:=x) (k:=16) RS;have hy1:1<=x/2^16:=RS
 have hy2:x/2^16<65536:=RS
 have s16:gq .u64 ((x:Nat):Int) (16:Int)=((x/2^16:Nat):Int):=UL x 16 aG;rw[lG (decide_eq_false RS) rfl,iU (decide_eq_true RS) rfl,iU aG rfl,s16];generalize x/2^16=y at hl hy1 hy2;by_cases h8:256<=y
 .have abv:=abu h8;have s8:gq .u64 ((y:Nat):Int) (8:Int)=((y/2^8:Nat):Int):=UL y 8 aG;rw[iU (decide_eq_true RS) rfl,iU aG rfl,s8,show wrap .i64 (wrap .i64 ((0:Int)+(16:Int))+(8:Int))=((24:Nat):Int) by decide];refine(UM RS RS aG).trans ?_;rw[hl,abv,show y/2^8=y/256 by omega];congr 2;omega
 .rw[lG (decide_eq_false RS) rfl,show wrap .i64 ((0:Int)+(16:Int))=((16:Nat):Int) by decide];refine(UM RS RS aG).trans ?_;rw[hl]
theorem amQ {n x:Nat}(h1:1<=x)(h2:x<2^41):DF n ((x:Nat):Int)=some ((Nat.log2 x+1:Nat):Int):=by
 by_cases h16:x<65536
 .exact azN h1 h16
 by_cases h32:x<4294967296
 .exact azQ RS h32
 .exact azO RS h2
theorem UN {n k:Nat}(h2:2<=k)(h:k<=2^40):Bz n ((k:Nat):Int)=some ((iZ k:Nat):Int):=by
 rw[ayX,gP (i:=((k:Nat):Int)-1) RS RS,UG (x:=((k:Nat):Int)-1) RS RS,show ((k:Nat):Int)-1=((k-1:Nat):Int) by omega];have hl:Nat.log2 (k-1)<41:=(Nat.log2_lt RS).2 RS;have h1:Bw n ((k-1:Nat):Int)=some ((Nat.log2 (k-1)+1:Nat):Int):=by rw[abb];exact bs (amQ RS RS) rfl
 refine bs h1 ?_;rw[gP RS RS];refine gR (decide_eq_true RS) ?_;have e:(((Nat.log2 (k-1)+1:Nat):Int))-1=((Nat.log2 (k-1):Nat):Int):=RS
 rw[e];show some (wrap .i64 (1*2^min (((Nat.log2 (k-1):Nat):Int)).toNat 64))=_;congr 1;rw[Int.toNat_natCast,Ci RS,Int.one_mul];have hp:2^Nat.log2 (k-1)<=k-1:=Nat.log2_self_le RS;have hc:((2^Nat.log2 (k-1):Nat):Int)=(2:Int)^Nat.log2 (k-1):=by push_cast;rfl
 rw[<-hc];unfold iZ;generalize 2^Nat.log2 (k-1)=q at hp⊢;exact gP RS RS
theorem azR (a b x:au)(h:JG (a,b)=some x):Pure E 141 [a.v,b.v] x.v:=by
 cases h;refine al5 1000 (a,b) _ ?_;have la:(dH a).length=16:=rfl;have lb:(dH b).length=16:=rfl;have le:∀d:au,(fC (dH d)).length=17:=fun d=>rfl;have hsz:jD fC [dH a,dH b]=34:=by show (fC (dH a)).length+((fC (dH b)).length+0)=34;rw[le,le]
 rw[amu];refine bs (Oy (n:=1000) (t:=31) (ls:=[dH a,dH b]) (fun x hx=>?_) ?_ ?_ (by show 2<1000;decide) aG (by show 2<2^62;decide)) rfl
 .rcases jd.1 hx with rfl|hx
  .omega
  .rw[jq.1 hx];omega
 .rw[hsz];decide
 .rw[hsz];decide
theorem azS (p x:Int)(h:F6 p=some x):Pure E 132 [.int .i64 p] (.int .i64 x):=by
 unfold F6 at h;split at h
 .rename_i hc;cases h;have:=UN (n:=5) (k:=p.toNat) RS RS;rw[G9 RS] at this;exact aa3 5 p _ this
 .cases h
end Sh
end
