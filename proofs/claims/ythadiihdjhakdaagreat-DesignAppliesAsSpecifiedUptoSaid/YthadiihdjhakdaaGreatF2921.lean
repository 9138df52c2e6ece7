import Derived.IntWalk
import Derived.Test.YthadiihdjhakdaaGreatF2920
set_option linter.all false
open Go.IntKind (wrap)
section
open Go Go.Proofs aY
namespace Sh
theorem acQ {α:Type}(l:List α)(i:Nat):aR l (i:Int)=l[i]? :=by
 unfold aR;by_cases h:i<l.length
 ·rw[if_pos ⟨ah,ah⟩];simp
 ·rw[if_neg ah];simp;omega
theorem bH {α:Type}{l:List α}{i:Nat}{x:α}(h:l[i]? =some x):aR l (i:Int)=some x:=by rw[acQ,h]
theorem qL {α:Type}{l:List α}{i:Nat}{x:α}(h:l[i]? =some x):i<l.length:=by rw[oC] at h;exact h.1
theorem ku {α:Type}{l:List α}{i:Nat}{x:α}(h:l[i]? =some x):decide ((i:Int)< (l.length:Int))=true:=by have:=qL h;simp;omega
theorem zP {α:Type}(l:List α):decide ((l.length:Int)< (l.length:Int))=false:=aC
theorem jd {i:Nat}(h:i<2^62):wrap .i64 ((i:Int)+(1:Int))=((i+1:Nat):Int):=Bp
def foldI {α β σ:Type}(step:α->Nat->σ->(σ->β)->β)(fin:σ->β):Nat->List α->σ->β
 |_,[],s=>fin s|i,x::l,s=>step x i s fun s=>foldI step fin (i+1) l s
theorem aye {α β σ:Type}{L:Nat->σ->Int->Option β}{l:List α}(step:α->Nat->σ->(σ->Option β)->Option β)(fin:σ->Option β)(hs:∀m (i:Nat) x s,l[i]? =some x->L (m+1) s (i:Int)=step x i s fun s=>L m s ((i+1:Nat):Int))(hf:∀m s,L (m+1) s (l.length:Int)=fin s)(hc:∀x (i:Nat) s k k',(∀s,k s=k' s)->step x i s k=step x i s k'):∀(k i m:Nat)(s:σ),i+k=l.length->k<m->L m s (i:Int)=foldI step fin i (l.drop i) s:=by
 intro k;induction k with
 |zero=>
  intro i m s hi hm;obtain⟨m,rfl⟩:∃m',m=m'+1:=⟨m-1,ah⟩;obtain rfl:i=l.length:=ah
  rw[hf,List.drop_length];rfl
 |succ k ih=>
  intro i m s hi hm;obtain⟨m,rfl⟩:∃m',m=m'+1:=⟨m-1,ah⟩;have hlt:i<l.length:=ah
  have hx:l[i]? =some l[i]:=jM hlt;rw[hs m i l[i] s hx,uQ hlt];exact hc _ _ _ _ _ fun s=>ih (i+1) m s ah ah
theorem KN {α β:Type}{L:Nat->Int->Option β}{l:List α}(step:α->Nat->Option β->Option β)(fin:Option β)(hs:∀m (i:Nat) x,l[i]? =some x->L (m+1) (i:Int)=step x i (L m ((i+1:Nat):Int)))(hf:∀m,L (m+1) (l.length:Int)=fin){m:Nat}(hm:l.length<m):
 L m (0:Int)=foldI (σ:=Unit) (fun x i _ k=>step x i (k ())) (fun _=>fin) 0 l ():=by
 have:=aye (L:=fun m (_:Unit) i=>L m i) (l:=l) (fun x i _ k=>step x i (k ())) (fun _=>fin) (fun m i x _ h=>hs m i x h) (fun m _=>hf m) (fun x i s k k' h=>by rw[h]) l.length 0 m () ah hm;simpa using this
theorem Gv {α:Type}{γ:Type}(p:α->Bool)(f:Nat->γ)(z:γ):∀(l:List α)(i:Nat),foldI (σ:=Unit) (fun x i _ (k:Unit->Option γ)=>bif p x then some (f i) else k ()) (fun _=>some z) i l ()=some (match l.findIdx? p with|some j=>f (i+j)|none=>z)
 | [],i=>rfl|x::l,i=>by
  show (bif p x then some (f i) else foldI _ _ (i+1) l ())=_;rw[List.findIdx?_cons];cases hp:p x
  ·rw[cond_false,Gv p f z l (i+1)]
   simp only[dO,if_false];cases l.findIdx? p with
   |none=>rfl|some j=>simp only[Option.map_some];rw[Nat.add_right_comm,uP]
  ·simp
theorem acR {α β σ:Type}{L:Nat->σ->Int->Option β}{l:List α}(hs:∀m (i:Nat) x s,l[i]? =some x->(∀s,∃r,L m s ((i+1:Nat):Int)=some r)->∃r,L (m+1) s (i:Int)=some r)(hf:∀m s (i:Nat),l.length<=i->∃r,L (m+1) s (i:Int)=some r):
 ∀(k i m:Nat)(s:σ),l.length<=i+k->k<m->∃r,L m s (i:Int)=some r:=by
 intro k;induction k with
 |zero=>intro i m s hi hm;obtain⟨m,rfl⟩:∃m',m=m'+1:=⟨m-1,ah⟩;exact hf m s i ah
 |succ k ih=>
  intro i m s hi hm;obtain⟨m,rfl⟩:∃m',m=m'+1:=⟨m-1,ah⟩;by_cases h:l.length<=i
  ·exact hf m s i h
  ·exact hs m i _ s (jM ah) fun s=>ih (i+1) m s ah ah
theorem ni {α:Type}{l:List α}{i:Nat}(h:l.length<=i):decide ((i:Int)< (l.length:Int))=false:=jR
theorem bs {α β:Type}{o:Option α}{a:α}{f:α->Option β}{r:Option β}(h:o=some a)(k:f a=r):o.bind f=r:=zY
theorem qM {a k:Nat}(h:a<2^30)(hk:k<=2^12):dG a k=true:=by
 unfold dG;have h1:a*k<=2^30*2^12:=Nat.mul_le_mul (Nat.le_of_lt h) hk;have e:(2:Nat)^30*2^12<=2^47:=eO
 rw[iP,decide_eq_true_iff,decide_eq_true_iff];exact⟨ah,ah⟩
theorem Gw {α:Type}{l:List α}{i:Nat}(h:i<l.length):decide (0<=(i:Int)/\(i:Int)< (l.length:Int))=true:=decide_eq_true ⟨ah,ah⟩
theorem akA {α:Type}{c:Bool}{x d:α}:lS c (some x) d=some (bif c then x else d):=by cases c<;>rfl
theorem ayf {i:Nat}(h:0<i)(hb:i<2^62):wrap .i64 ((i:Int)-(1:Int))=((i-1:Nat):Int):=Bp
theorem ayg {α:Type}{l:List α}{i:Nat}(h:i<l.length):∃x,aR l (i:Int)=some x/\x∈l:=⟨l[i],by rw[acQ,jM h],lY h⟩
theorem acS {τ β:Type}{L:Nat->τ->Option β}(Inv:τ->Prop)(mu:τ->Nat)(Post:β->Prop)(h:∀m p,Inv p->(∀p',Inv p'->mu p'<mu p->∃r,L m p'=some r/\Post r)->∃r,L (m+1) p=some r/\Post r):∀m p,Inv p->mu p<m->∃r,L m p=some r/\Post r
 |0,p,_,hm=>ah|m+1,p,hp,hm=>h m p hp fun p' hp' hlt=>acS Inv mu Post h m p' hp' ah
theorem WY {α:Type}{P:α->Prop}{c:Bool}{a b:Option α}(ha:c=true->∃r,a=some r/\P r)(hb:c=false->∃r,b=some r/\P r):∃r,(bif c then a else b)=some r/\P r:=by
 cases c
 ·exact hb rfl
 ·exact ha rfl
theorem wZ {α β:Type}{P:β->Prop}{o:Option α}{f:α->Option β}(h:∃x,o=some x/\∃r,f x=some r/\P r):∃r,o.bind f=some r/\P r:=by obtain⟨x,hx,h⟩:=h;rw[hx];exact h
theorem zQ {α:Type}{P:α->Prop}{a:α}(h:P a):∃r,some a=some r/\P r:=⟨a,rfl,h⟩
theorem ayh {α:Type}{l:List α}{i:Int}(h1:0<=i)(h2:decide (i< (l.length:Int))=true):∃x,aR l i=some x:=by obtain⟨j,rfl⟩:=Int.eq_ofNat_of_zero_le h1;rw[acQ];exact⟨l[j]' Ry,jM _⟩
theorem ayi {x:Int}(h:0<=x):wrap .u64 (Int.tdiv x 128)=wrap .u64 (x/128):=by rw[Int.tdiv_eq_ediv_of_nonneg h]
theorem bJ {α:Type}{c:Bool}{a b r:Option α}(h:c=true)(k:a=r):(bif c then a else b)=r:=zY
theorem bW {α:Type}{c:Bool}{a b r:Option α}(h:c=false)(k:b=r):(bif c then a else b)=r:=zY
theorem iM {α:Type}{P:α->Prop}{c:Bool}{o:Option α}(h:c=true)(k:∃r,o=some r/\P r):∃r,(bif c then o else none)=some r/\P r:=zY
theorem ayj (x:Int):0<=wrap .u64 x:=by rw[IntKind.wrap_u64];exact Int.emod_nonneg _ eO
theorem zR {a k:Nat}(h:a<2^30)(hk:k<=2^12):dG a k=true:=qM h hk
theorem ayk {α:Type}{c:Bool}{o:Option α}{d:α}(h:c=true->∃x,o=some x):∃x,lS c o d=some x:=by
 cases c
 ·exact⟨d,rfl⟩
 ·exact h rfl
theorem ayl {n:Nat}{e:Entry}(h:e.aQ.length<n)(hb:e.aQ.length<2^62):∃b,JL n e=some b:=by
 obtain⟨r,hr,_⟩:=acS (L:=fun m i=>En n e m i) (fun i=>0<=i/\i<=e.aQ.length) (fun i=>(e.aQ.length-i).toNat) (fun _=>True)
  (fun m i hi ih=>by rw[acG];refine WY (fun hc=>?_) (fun _=>zQ trivial);have hc':decide (i< ((e.aQ.length:Nat):Int))=true:=(by revert hc;cases decide (i< ((e.aQ.length:Nat):Int))<;>simp);obtain⟨x,hx⟩:=ayh hi.1 hc';refine wZ ⟨x,hx,?_⟩;rw[hx];obtain⟨y,hy⟩:=ayk (c:= !(decide ((((x.Name.length:Nat):Int))> (300:Int)))) (o:=some x) (d:=(⟨[],(0:Int),(0:Int),[]⟩:Attr)) (fun _=>⟨x,rfl⟩);refine wZ ⟨y,hy,?_⟩;refine WY (fun _=>zQ trivial) (fun _=>?_);have h3:=of_decide_eq_true hc';rw[IntKind.wrap_i64];have e2:(i+1+9223372036854775808)% 18446744073709551616-9223372036854775808=i+1:=ah;rw[e2];exact ih _ ⟨ah,ah⟩ ah) n (0:Int) ⟨ah,ah⟩ Bt
 rw[ajK,hr];cases r with
 |inl q=>exact⟨_,rfl⟩|inr q=>exact⟨_,rfl⟩
def Gx (s:aN)(n:Nat):Prop:=s.Defs.length<n/\s.Defs.length<2^62/\∀d∈s.Defs,d.Name.length<n/\d.Name.length<2^62/\d.Words.length<n/\d.Words.length<2^62/\∀w∈d.Words,w.length<n/\w.length<2^62
theorem Qy {α:Type}{c:Bool}{a b:Option α}(ha:∃r,a=some r)(hb:∃r,b=some r):∃r,(bif c then a else b)=some r:=by
 cases c
 ·exact hb
 ·exact ha
theorem aym {n:Nat}{s:aN}{k:Int}(h:Gx s n):∃b:Bool,Oe n (s,k)=some b:=by
 obtain⟨h1,h2,h3⟩:=h;obtain⟨r,hr⟩:=acR (L:=fun m (_:Unit) i=>Em n s k m i) (l:=s.Defs)
  (fun m i d _ hd ih=>by
    have hlt:=qL hd;obtain⟨w1,w2,w3,w4,w5⟩:=h3 d (Bv hd);show∃r,Em n s k (m+1) (i:Int)=some r;obtain⟨r,hr⟩:=acR (L:=fun m (_:Unit) j=>El n s k (i:Int) d m j) (l:=d.Words)
     (fun m j w _ hw ih=>by have hlt:=qL hw;show∃r,El n s k (i:Int) d (m+1) (j:Int)=some r;rw[ajH,ku hw,bH hw,jd ah,cond_true,Option.bind_some];exact Qy ⟨_,rfl⟩ (ih ()))
     (fun m _ j hj=>by show∃r,El n s k (i:Int) d (m+1) (j:Int)=some r;rw[ajH,ni hj];exact⟨_,rfl⟩) d.Words.length 0 n () ah w3
    have hr':El n s k (i:Int) d n (0:Int)=some r:=hr;rw[ajI,ku hd,bH hd,jd ah,Option.bind_some,hr'];refine Qy (Qy ⟨_,rfl⟩ ?_) ⟨_,rfl⟩;cases r with
    |inl q=>exact ih ()|inr q=>exact⟨_,rfl⟩)
  (fun m _ i hi=>by show∃r,Em n s k (m+1) (i:Int)=some r;rw[ajI,ni hi];exact⟨_,rfl⟩) s.Defs.length 0 n () ah h1
 have hr':Em n s k n (0:Int)=some r:=hr;rw[avI,hr',Option.bind_some];cases r with
 |inl q=>exact⟨_,rfl⟩|inr q=>exact⟨q,rfl⟩
def akB (l:List Event)(n:Nat):Prop:=l.length<n/\l.length<2^62/\∀x∈l,x.aQ.length<n/\x.aQ.length<2^62
theorem ayn {n:Nat}{l:List Event}{k:Int}(h:akB l n):∃b:Bool,JM n (l,k)=some b:=by
 obtain⟨h1,h2,h3⟩:=h;obtain⟨r,hr⟩:=acR (L:=fun m (_:Unit) i=>zO n l k m i) (l:=l)
  (fun m i x _ hx ih=>by have hlt:=qL hx;obtain⟨a1,a2⟩:=h3 x (Bv hx);show∃r,zO n l k (m+1) (i:Int)=some r;rw[Wn,ku hx,bH hx,jd ah];refine Qy ?_ ⟨_,rfl⟩;rw[Option.bind_some,Option.bind_some];obtain⟨b,hb⟩:=ayl (n:=n) (e:=⟨0,0,0,0,0,0,0,x.Vec,x.aQ⟩) a1 a2;rw[hb];show∃r,(bif !b then _ else _)=some r;exact Qy ⟨_,rfl⟩ (ih ()))
  (fun m _ i hi=>by show∃r,zO n l k (m+1) (i:Int)=some r;rw[Wn,ni hi];exact⟨_,rfl⟩) l.length 0 n () ah h1
 have hr':zO n l k n (0:Int)=some r:=hr;rw[ajM,hr',Option.bind_some];cases r with
 |inl q=>exact⟨_,rfl⟩|inr q=>exact⟨q,rfl⟩
def pW (v:List Int)(a:List Attr):Prop:=v.length<=40/\a.length<=20/\∀x∈a,x.Name.length<=300/\x.S.length<=300
def ayo (e:Entry)(n:Nat):Prop:=e.Vec.length<n/\e.Vec.length<2^62/\e.aQ.length<n/\e.aQ.length<2^62/\pW e.Vec e.aQ
theorem akC {n:Nat}{e:Entry}(hb:e.aQ.length<2^62):∀(m i:Nat),En n e m (i:Int)=some (.inl ())->∀j (hj:j<e.aQ.length),i<=j->j<=20->e.aQ[j].Name.length<=300/\e.aQ[j].S.length<=300
 |0,i,h,_,_,_,_=>by rw[ajJ] at h;cases h|m+1,i,h,j,hj,hij,h20=>by
  rw[acG] at h;have hi:i<e.aQ.length:=ah
  have e1:decide ((i:Int)< ((e.aQ.length:Nat):Int))=true:=decide_eq_true ah;have e2:decide ((i:Int)<=(20:Int))=true:=decide_eq_true ah;have hx:e.aQ[i]? =some e.aQ[i]:=jM hi;rw[e1,e2,bH hx,jd ah] at h;simp only[cond_true,Option.bind_some] at h;cases hn:decide (((e.aQ[i].Name.length:Nat):Int)> (300:Int)) with
  |true=>rw[hn] at h;simp only[Bool.not_true,lS,cond_false,cond_true,Option.bind_some] at h;cases h|false=>
   rw[hn] at h;simp only[Bool.not_false,lS,cond_true,cond_false,Option.bind_some] at h;cases hs:decide (((e.aQ[i].S.length:Nat):Int)> (300:Int)) with
   |true=>rw[hs] at h;cases h|false=>
    rw[hs] at h;have h1:=of_decide_eq_false hn;have h2:=of_decide_eq_false hs;by_cases hji:j=i
    ·subst hji;exact⟨ah,ah⟩
    ·exact akC hb m (i+1) h j hj ah h20
theorem ayp {n:Nat}{e:Entry}(hb:e.aQ.length<2^62)(h:JL n e=some true):pW e.Vec e.aQ:=by
 rw[ajK] at h;obtain⟨r,hr,h⟩:=iR.1 h;cases r with
 |inr b=>
  have:∀(m i:Nat) b,i<=2^62->En n e m (i:Int)=some (.inr b)->b=false:=by
   intro m;induction m with
   |zero=>intro i b _ h;rw[ajJ] at h;cases h|succ m ih=>
    intro i b hi h;rw[acG] at h;cases hc:(bif decide ((i:Int)< ((e.aQ.length:Nat):Int)) then decide ((i:Int)<=(20:Int)) else false) with
    |false=>rw[hc] at h;cases h|true=>
     rw[hc] at h;have hlt:i<e.aQ.length:=by
      cases hd:decide ((i:Int)< ((e.aQ.length:Nat):Int)) with
      |false=>rw[hd] at hc;cases hc|true=>have:=of_decide_eq_true hd;omega
     rw[cond_true,jd ah] at h;obtain⟨x,_,h⟩:=iR.1 h;obtain⟨y,_,h⟩:=iR.1 h;revert h;cases (bif decide (((x.Name.length:Nat):Int)> (300:Int)) then true else decide (((y.S.length:Nat):Int)> (300:Int))) with
     |true=>intro h;cases h;rfl|false=>intro h;exact ih (i+1) b ah h
  have hb':=this n 0 b ah hr;subst hb';cases h
 |inl u=>
  have h':some (bif decide (((e.Vec.length:Nat):Int)<=(40:Int)) then decide (((e.aQ.length:Nat):Int)<=(20:Int)) else false)=some true:=h;cases hv:decide (((e.Vec.length:Nat):Int)<=(40:Int)) with
  |false=>rw[hv] at h';cases h'|true=>rw[hv] at h';have h1:=of_decide_eq_true hv;have h2:=of_decide_eq_true (lX h');refine⟨ah,ah,fun x hx=>?_⟩;obtain⟨j,hj,rfl⟩:=GY.1 hx;exact akC hb n 0 hr j hj (kN _) ah
theorem akD {n:Nat}{l:List Event}{k:Int}(hb:l.length<2^62)(ha:∀e∈l,e.aQ.length<2^62):∀(m i:Nat),zO n l k m (i:Int)=some (.inl ())->∀j (hj:j<l.length),i<=j->(j:Int)<=k->pW l[j].Vec l[j].aQ
 |0,i,h,_,_,_,_=>by rw[ajL] at h;cases h|m+1,i,h,j,hj,hij,hk=>by
  rw[Wn] at h;have hi:i<l.length:=ah
  have e1:decide ((i:Int)< (l.length:Int))=true:=decide_eq_true ah;have e2:decide ((i:Int)<=k)=true:=decide_eq_true ah;have hx:l[i]? =some l[i]:=jM hi;rw[e1,e2,bH hx,jd ah] at h;simp only[cond_true,Option.bind_some] at h;obtain⟨b,hf,h⟩:=iR.1 h;cases b with
  |false=>cases h|true=>
   by_cases hji:j=i
   ·subst hji;exact ayp (e:=⟨0,0,0,0,0,0,0,l[j].Vec,l[j].aQ⟩) (ha _ (lY _)) hf
   ·exact akD hb ha m (i+1) h j hj ah hk
theorem ayq {n:Nat}{l:List Event}{k:Int}(hb:l.length<2^62)(ha:∀e∈l,e.aQ.length<2^62)(h:JM n (l,k)=some true):∀e∈l,pW e.Vec e.aQ:=by
 rw[ajM] at h;obtain⟨r,hr,h⟩:=iR.1 h;cases r with
 |inr b=>
  have:∀(m i:Nat) b,i<=2^62->zO n l k m (i:Int)=some (.inr b)->b=false:=by
   intro m;induction m with
   |zero=>intro i b _ h;rw[ajL] at h;cases h|succ m ih=>
    intro i b hi h;rw[Wn] at h;cases hc:(bif decide ((i:Int)< (l.length:Int)) then decide ((i:Int)<=k) else false) with
    |false=>rw[hc] at h;cases h|true=>
     rw[hc] at h;have hlt:i<l.length:=by
      cases hd:decide ((i:Int)< (l.length:Int)) with
      |false=>rw[hd] at hc;cases hc|true=>have:=of_decide_eq_true hd;omega
     rw[cond_true,jd ah] at h;obtain⟨x,_,h⟩:=iR.1 h;obtain⟨y,_,h⟩:=iR.1 h;obtain⟨f,_,h⟩:=iR.1 h;revert h;cases f with
     |false=>intro h;cases h;rfl|true=>intro h;exact ih (i+1) b ah h
  have hb':=this n 0 b ah hr;subst hb';cases h
 |inl u=>have h':some (decide ((l.length:Int)<=k))=some true:=h;have h2:=of_decide_eq_true (lX h');intro x hx;obtain⟨j,hj,rfl⟩:=GY.1 hx;exact akD hb ha n 0 hr j hj (kN _) ah
theorem ayr {n:Nat}{z:Int}(hz0:0<=z)(hz1:z<2^64)(hn:20<n):∃r,Gp n n (z,[])=some r/\r.2.length<=9:=by
 refine acS (L:=fun m p=>Gp n m p) (fun p=>0<=p.1/\p.2.length<=9/\p.1<2^(64-7*p.2.length)) (fun p=>10-p.2.length) (fun r=>r.2.length<=9) ?_ n _ ⟨hz0,kN _,hz1⟩ (by show 10-0<n;omega);rintro m ⟨x2,x3⟩ ⟨ha,hb,hc⟩ ih;dsimp only at ha hb hc ih⊢;rw[awg];refine WY (fun hd=>?_) (fun _=>zQ hb);have hd':=of_decide_eq_true hd;have hlt:x3.length<9:=by
  by_cases h:x3.length<9
  ·exact h
  ·have e:x3.length=9:=ah
   rw[e] at hc;have e2:(2:Int)^(64-7*9)=2:=eO
   rw[e2] at hc;exfalso;omega
 have ays:(2:Int)^(64-7*x3.length)<=2^64:=by
  have e:(2:Int)^(64-7*x3.length)=((2^(64-7*x3.length):Nat):Int):=by rw[Int.natCast_pow];rfl
  have e2:(2:Int)^64=((2^64:Nat):Int):=rfl;rw[e,e2];exact Int.ofNat_le.2 (Nat.pow_le_pow_right eO ah)
 have aBI:x2<2^64:=Int.lt_of_lt_of_le hc ays;have hw:wrap .u64 (Int.tdiv x2 128)=x2/128:=by rw[ayi ha,IntKind.wrap_u64];omega
 rw[hw];refine iM (zR rT eO) ?_;refine ih _ ⟨Int.ediv_nonneg ha eO,?_,?_⟩ (by show 10-(x3++[_]).length<10-x3.length;rw[bE,List.length_cons,List.length_nil];omega)
 ·show (x3++[_]).length<=9;rw[bE,List.length_cons,List.length_nil];omega
 ·show x2/128<2^(64-7*(x3++[_]).length)
  rw[bE,List.length_cons,List.length_nil];have e:(2:Int)^(64-7*x3.length)=2^(64-7*(x3.length+1))*128:=by
   have:64-7*x3.length=(64-7*(x3.length+1))+7:=ah
   rw[this,Int.pow_add];rfl
  rw[e] at hc;exact Int.ediv_lt_of_lt_mul eO hc
theorem ayt (x:Int):wrap .u64 x<2^64:=by rw[IntKind.wrap_u64];exact Int.emod_lt_of_pos _ eO
theorem WZ {n:Nat}(x:Int)(hn:20<n):∃r:List Int,AZ n x=some r/\r.length<=10:=by
 rw[awh];refine WY (fun _=>?_) (fun _=>?_);all_goals
  generalize hz:wrap .u64 _=z;have hz0:0<=z:=by rw[<-hz];exact ayj _
  have hz1:z<2^64:=by rw[<-hz];exact ayt _
  obtain⟨r4,hr4,l4⟩:=ayr hz0 hz1 hn;refine wZ ⟨r4,hr4,?_⟩;refine iM (zR rT eO) (zQ ?_);rw[bE,List.length_cons,List.length_nil];omega
theorem ayu {n:Nat}{l:List UInt8}(hn:20<n)(hl:l.length<2^29):∃r:List Int,Ox n l=some r/\r.length<=l.length+10:=by rw[awj];obtain⟨r,hr,h⟩:=WZ (n:=n) (l.length:Int) hn;refine wZ ⟨r,hr,iM (zR (by rw[jS];omega) eO) (zQ ?_)⟩;rw[bE,jS];omega
theorem ayv {n:Nat}{l:List Int}(hl:l.length<2^20)(hn:l.length<n)(hn2:20<n):∃r:List Int,F7 n l=some r/\r.length<=10+10*l.length:=by
 rw[awi];obtain⟨r2,hr2,l2⟩:=WZ (n:=n) (l.length:Int) hn2;have h3:∀(k i m:Nat)(a:List Int),i+k=l.length->k<m->a.length<=10+10*i->∃r,Qd n l m (a,(i:Int))=some r/\r.length<=10+10*l.length:=by
  intro k;induction k with
  |zero=>intro i m a hi hm hc;obtain⟨m,rfl⟩:∃m',m=m'+1:=⟨m-1,ah⟩;rw[ajU,ni ah];exact zQ ah
  |succ k ih=>
   intro i m a hi hm hc;obtain⟨m,rfl⟩:∃m',m=m'+1:=⟨m-1,ah⟩;have hlt:i<l.length:=ah
   have hx:l[i]? =some l[i]:=jM hlt;rw[ajU,ku hx,bH hx,jd ah,cond_true,Option.bind_some];obtain⟨w,hw,lw⟩:=WZ (n:=n) l[i] hn2;refine wZ ⟨w,hw,iM (zR ah eO) ?_⟩;exact ih (i+1) m (a++w) ah ah Ey
 obtain⟨r,hr,e⟩:=h3 l.length 0 n r2 ah hn ah;exact wZ ⟨r2,hr2,wZ ⟨r,hr,zQ e⟩⟩
theorem ayw {n:Nat}{l:List (List UInt8)}(hl:l.length<2^12)(hs:∀x∈l,x.length<=300)(hn:l.length<n)(hn2:20<n):∃r:List Int,Oy n l=some r/\r.length<=10+310*l.length:=by
 rw[awk];obtain⟨r2,hr2,l2⟩:=WZ (n:=n) (l.length:Int) hn2;have h3:∀(k i m:Nat)(a:List Int),i+k=l.length->k<m->a.length<=10+310*i->∃r,Qe n l m (a,(i:Int))=some r/\r.length<=10+310*l.length:=by
  intro k;induction k with
  |zero=>intro i m a hi hm hc;obtain⟨m,rfl⟩:∃m',m=m'+1:=⟨m-1,ah⟩;rw[ajV,ni ah];exact zQ ah
  |succ k ih=>
   intro i m a hi hm hc;obtain⟨m,rfl⟩:∃m',m=m'+1:=⟨m-1,ah⟩;have hlt:i<l.length:=ah
   have hx:l[i]? =some l[i]:=jM hlt;have aBJ:=hs _ (lY hlt);rw[ajV,ku hx,bH hx,jd ah,cond_true,Option.bind_some];obtain⟨w,hw,lw⟩:=ayu (n:=n) (l:=l[i]) hn2 ah;refine wZ ⟨w,hw,iM (zR ah eO) ?_⟩;exact ih (i+1) m (a++w) ah ah Ey
 obtain⟨r,hr,e⟩:=h3 l.length 0 n r2 ah hn ah;exact wZ ⟨r2,hr2,wZ ⟨r,hr,zQ e⟩⟩
theorem ayx {n:Nat}{e:Entry}(h:pW e.Vec e.aQ)(hn:2^20<n):∃r:List Int,JX n e=some r/\r.length<=2^15:=by
 obtain⟨h1,h2,h3⟩:=h;rw[awl];refine iM (zR rT eO) (iM (zR oq eO) ?_);generalize hz:(([e.ID,e.dw,e.bP,e.dn,e.From,e.To,e.dH,((e.Vec.length:Nat):Int)]++e.Vec)++[((e.aQ.length:Nat):Int)])=z;have aBK:z.length<=49:=by rw[<-hz];simp only[bE,List.length_cons,List.length_nil];omega
 have h4:∀(k i m:Nat)(a:List Int)(b:List (List UInt8)),i+k=e.aQ.length->k<m->a.length<=49+2*i->b.length<=2*i->(∀x∈b,x.length<=300)->
  ∃r,Qf n e m (a,(b,(i:Int)))=some r/\(r.1.length<=89/\r.2.length<=40/\∀x∈r.2,x.length<=300):=by
  intro k;induction k with
  |zero=>intro i m a b hi hm ha hb hx;obtain⟨m,rfl⟩:∃m',m=m'+1:=⟨m-1,ah⟩;rw[ajW,ni ah];exact zQ ⟨by show a.length<=89;omega,by show b.length<=40;omega,hx⟩
  |succ k ih=>
   intro i m a b hi hm ha hb hx;obtain⟨m,rfl⟩:∃m',m=m'+1:=⟨m-1,ah⟩;have hlt:i<e.aQ.length:=ah
   have hg:e.aQ[i]? =some e.aQ[i]:=jM hlt;obtain⟨y1,y2⟩:=h3 _ (lY hlt);rw[ajW,ku hg,bH hg,jd ah];simp only[cond_true,Option.bind_some];refine iM (zR rT eO) (iM (zR rT eO) ?_);refine ih (i+1) m _ _ ah ah (by rw[bE,List.length_cons,List.length_cons,List.length_nil];omega) (by rw[bE,List.length_cons,List.length_cons,List.length_nil];omega) (fun x hx'=>?_);rcases oW.1 hx' with hx'|hx'
   ·exact hx x hx'
   ·rcases iC.1 hx' with rfl|hx'
    ·exact y1
    ·rcases iC.1 hx' with rfl|hx'
     ·exact y2
     ·cases hx'
 obtain⟨r7,ayy,a7,b7,c7⟩:=h4 e.aQ.length 0 n z [] ah ah ah aC (fun x hx=>absurd hx List.not_mem_nil);refine wZ ⟨r7,ayy,?_⟩;obtain⟨r8,ayz,aBL⟩:=ayv (n:=n) (l:=r7.1) ah ah ah;obtain⟨fK,ayA,aBM⟩:=ayw (n:=n) (l:=r7.2) ah c7 ah ah;refine wZ ⟨r8,ayz,iM (zR ah eO) (wZ ⟨fK,ayA,?_⟩)⟩;refine iM (zR (by simp only[List.nil_append];omega) eO) (zQ ?_);show ((([]:List Int)++r8)++fK).length<=2^15;rw[List.nil_append,bE];omega
end Sh
end
section
open Go aY
namespace acT
variable {α β γ:Type}
theorem mu {τ:Type}{L:Nat->τ->Option β}(Inv:τ->Prop)(W9:τ->Nat)(Post:β->Prop)(h:∀m p,Inv p->(∀p',Inv p'->W9 p'<W9 p->∃r,L m p'=some r/\Post r)->∃r,L (m+1) p=some r/\Post r):∀m p,Inv p->W9 p<m->∃r,L m p=some r/\Post r
 |0,p,_,hm=>ah|m+1,p,hp,hm=>h m p hp fun p' hp' hlt=>mu Inv W9 Post h m p' hp' ah
theorem wr {i:Int}(h0: -(2^62)<=i)(h:i<=2^62):wrap .i64 i=i:=Bp
def Gy (d:α)(l:List α)(i:Int):α:=(l[i.toNat]?).getD d
theorem ayB (d:α){l:List α}{i:Int}(h0:0<=i)(h1:i<l.length):Gy d l i∈l:=by
 unfold Gy;have:i.toNat<l.length:=ah
 rw[jM this];exact lY _
structure zS (d:α)(a b:Int)(l l':List α):Prop where
 len:l'.length=l.length
 out:∀k,0<=k->(k<a\/b<=k)->Gy d l' k=Gy d l k
 perm:l'.Perm l
 all:∀φ:α->Prop,(∀k,a<=k->k<b->φ (Gy d l k))->∀k,a<=k->k<b->φ (Gy d l' k)
theorem zS.refl (d:α)(a b:Int)(l:List α):zS d a b l l:=⟨rfl,fun _ _ _=>rfl,List.Perm.refl _,fun _ h=>h⟩
theorem zS.trans {d:α}{a b:Int}{l l' l'':List α}(h:zS d a b l l')(k:zS d a b l' l''):zS d a b l l'':=
 ⟨k.len.trans h.len,fun i h0 h1=>(k.out i h0 h1).trans (h.out i h0 h1),k.perm.trans h.perm,fun φ hφ=>k.all φ (h.all φ hφ)⟩
theorem zS.wide {d:α}{a b a' b':Int}{l l':List α}(h:zS d a b l l')(ha:a'<=a)(hb:b<=b')(h0:0<=a'):zS d a' b' l l':=by
 refine⟨h.len,fun k k0 k1=>h.out k k0 ah,h.perm,fun φ hφ k k0 k1=>?_⟩;by_cases hk:a<=k/\k<b
 ·have:=h.all (fun x=>φ x) (fun i i0 i1=>hφ i ah ah) k hk.1 hk.2
  exact this
 ·rw[h.out k ah ah]
  exact hφ k k0 k1
structure Ord (lt:α->α->Prop):Prop where
 asym:∀x y,lt x y->¬lt y x
 neg:∀x y z,¬lt x y->¬lt y z->¬lt x z
theorem Ord.trans {lt:α->α->Prop}(h:Ord lt){x y z:α}(h1:lt x y)(h2:lt y z):lt x z:=by refine Classical.byContradiction fun k=>?_;exact h.neg x z y k (h.asym y z h2) h1
def Xa (Ok:α->Prop)(l:List α):Prop:=∀x∈l,Ok x
theorem zS.al {Ok:α->Prop}{d:α}{a b:Int}{l l':List α}(h:zS d a b l l')(k:Xa Ok l):Xa Ok l':=fun x hx=>k x (h.perm.mem_iff.1 hx)
theorem Xa.at {Ok:α->Prop}{l:List α}(h:Xa Ok l)(d:α){i:Int}(h0:0<=i)(h1:i<l.length):Ok (Gy d l i):=h _ (ayB d h0 h1)
end acT
end
section
open Go Go.Proofs aY acT
namespace Sh
set_option maxRecDepth 100000
theorem ix {α:Type}{l:List α}{i:Nat}(h:i<l.length):aR l (i:Int)=some l[i]:=by unfold aR;rw[if_pos ⟨ah,ah⟩];simp[h]
theorem akE {i:Nat}(h:i<2^60):wrap .i64 ((i:Int)+1)=((i+1:Nat):Int):=Ri
theorem dT {p:Prop}[Decidable p](h:p):decide p=true:=decide_eq_true h
theorem Qz {p:Prop}[Decidable p](h:¬p):decide p=false:=decide_eq_false h
theorem akF {β:Type}{a b:Int}{x y:Option β}(h:a<b):(bif decide (a<b) then x else y)=x:=by rw[dT h];rfl
theorem akG {β:Type}{a b:Int}{x y:Option β}(h:¬a<b):(bif decide (a<b) then x else y)=y:=by rw[Qz h];rfl
end Sh
end
section
open Go Go.Proofs aY acT
namespace Sh
set_option maxRecDepth 100000
def Eo (a:List Int):Bool:=a.all (fun x=>decide (-1000<=x)&& decide (x<=1000))&& (decide (1<=a.length)&& decide (a.length<=32))
def ayC (a:List Int):Prop:=(∀x∈a, -1000<=x/\x<=1000)/\1<=a.length/\a.length<=32
def yI (x:Int):Bool:=decide (-1000<=x)&& decide (x<=1000)
theorem akH (a:List Int):Eo a=(a.all yI&& (decide (1<=a.length)&& decide (a.length<=32))):=rfl
theorem cF (a b:Bool):(bif a then b else false)=(a&& b):=by cases a<;>rfl
theorem ayD {n:Nat}{a:List Int}(hn:100<n)(hl:a.length<=40):Kj n a=some (Eo a):=by
 rw[axa];have key:∀k (i m:Nat) (b:Bool),i+k=a.length->k<m->Qh n a m (b,(i:Int))=some (b&& (a.drop i).all yI):=by
  intro k;induction k with
  |zero=>
   intro i m b hi hm;obtain⟨m,rfl⟩:∃m',m=m'+1:=⟨m-1,ah⟩;have:i=a.length:=ah
   rw[aj2,akG ah,this,List.drop_length,List.all_nil,Bool.and_true]
  |succ k ih=>
   intro i m b hi hm;obtain⟨m,rfl⟩:∃m',m=m'+1:=⟨m-1,ah⟩;have hlt:i<a.length:=ah
   rw[aj2,akF ah];refine bs (ix hlt) ?_;refine bs (aw8 ..) ?_;rw[akE ah,ih (i+1) m _ ah ah,uQ hlt,List.all_cons,cF,cF,Bool.and_assoc,Bool.and_assoc];rw[show yI a[i]=(decide (a[i]>= -1000)&& decide (a[i]<=1000)) from rfl,Bool.and_assoc]
 have h:=key a.length 0 n true ah ah;refine bs (a:=a.all yI) ?_ ?_
 ·rw[aw9]
  refine bs h ?_;rw[Ag,Bool.true_and]
 ·rw[akH,cF,cF,Bool.and_assoc,show decide ((a.length:Int)>=1)=decide (1<=a.length) from decide_eq_decide.2 ah,show decide ((a.length:Int)<=32)=decide (a.length<=32) from decide_eq_decide.2 ah]
theorem ayE {n:Nat}{a:List Int}(hn:100<n)(hl:a.length<=40):PE n a=some (Eo a):=by
 rw[axT];have key:∀k (i m:Nat),i+k=a.length->k<m->KG n a m (i:Int)=some (bif (a.drop i).all yI then .inl () else .inr false):=by
  intro k;induction k with
  |zero=>
   intro i m hi hm;obtain⟨m,rfl⟩:∃m',m=m'+1:=⟨m-1,ah⟩;have:i=a.length:=ah
   rw[akk,akG ah,this,List.drop_length];rfl
  |succ k ih=>
   intro i m hi hm;obtain⟨m,rfl⟩:∃m',m=m'+1:=⟨m-1,ah⟩;have hlt:i<a.length:=ah
   rw[akk,akF ah];refine bs (ix hlt) ?_;rw[uQ hlt,List.all_cons];by_cases h1:a[i]< -1000
   ·rw[dT h1]
    refine bs rfl ?_;have:yI a[i]=false:=(by unfold yI;rw[Qz ah];rfl);rw[this];rfl
   ·rw[Qz h1]
    refine bs (ix hlt) ?_;by_cases h2:a[i]>1000
    ·have:yI a[i]=false:=by unfold yI;rw[Bool.and_eq_false_iff];right;rw[Qz ah]
     rw[this,dT h2];rfl
    ·have:yI a[i]=true:=by unfold yI;rw[dT ah,dT ah];rfl
     rw[this,Qz h2,Bool.true_and];show KG n a m _=_;rw[akE ah];exact ih (i+1) m ah ah
 refine bs (key a.length 0 n ah ah) ?_;rw[Ag,akH];cases a.all yI
 ·rfl
 ·show some (bif decide ((a.length:Int)>=1) then decide ((a.length:Int)<=32) else false)=_
  rw[cF,Bool.true_and,show decide ((a.length:Int)>=1)=decide (1<=a.length) from decide_eq_decide.2 ah,show decide ((a.length:Int)<=32)=decide (a.length<=32) from decide_eq_decide.2 ah]
end Sh
end
section
open Go Go.Proofs aY
namespace Sh
def pX (id Bh commit:Int)(r:Row):Row:=if r.Entry.ID=id/\r.Entry.From=Bh/\r.fH=0/\r.Entry.dH<commit then ⟨r.Entry,commit⟩ else r
theorem set_mid {α:Type}(a:List α)(x y:α)(b:List α):iO (a++x::b) (a.length:Int) y=a++y::b:=by unfold iO;rw[show ((a.length:Int)).toNat=a.length from rfl,List.set_append_right _ _ (RS _),Nat.sub_self];rfl
theorem ayF {n:Nat}{rows:List Row}{id Bh commit:Int}(h:rows.length<n)(hb:rows.length<2^30):Kt n (rows,(id,(Bh,commit)))=some (rows.map (pX id Bh commit)):=by
 have key:∀(b a:List Row)(m:Nat),a.length+b.length=rows.length->b.length<m->KJ n id Bh commit m ((a.length:Int),a++b)=some ((),a++b.map (pX id Bh commit)):=by
  intro b;induction b with
  |nil=>intro a m hl hm;obtain⟨m,rfl⟩:∃m',m=m'+1:=⟨m-1,by simp at hm;omega⟩;rw[ako,lF,zP];simp
  |cons x b ih=>
   intro a m hl hm;obtain⟨m,rfl⟩:∃m',m=m'+1:=⟨m-1,by simp at hm;omega⟩;simp only[List.length_cons] at hl hm;have hx:(a++x::b)[a.length]? =some x:=aC
   have hin:=Gw (qL hx);have ih':=fun y=>ih (a++[y]) m jR ah;have e0:∀y,(((a++[y]).length:Nat):Int)=((a.length+1:Nat):Int):=fun y=>aC
   rw[ako,ku hx,cond_true,hin,cond_true];refine bs (bH hx) ?_;have imp:∀b:Bool,MX b true=true:=fun b=>by cases b<;>rfl
   have hw:∀(c:Bool)(d:Row),lS c (aR (a++x::b) (a.length:Int)) d=some (bif c then x else d):=fun c d=>by rw[bH hx];exact akA
   rw[imp,cond_true];refine bs (hw _ _) ?_;rw[imp,cond_true];refine bs (hw _ _) ?_;rw[imp,cond_true];refine bs (hw _ _) ?_;have hset:iO (a++x::b) (a.length:Int) (⟨x.Entry,commit⟩:Row)=a++[(⟨x.Entry,commit⟩:Row)]++b:=by rw[set_mid];simp
   by_cases c1:x.Entry.ID=id
   ·have e1:(x.Entry.ID==id)=true:=by simpa using c1
    simp only[e1,cond_true];by_cases c2:x.Entry.From=Bh
    ·have e2:(x.Entry.From==Bh)=true:=by simpa using c2
     simp only[e2,cond_true];by_cases c3:x.fH=0
     ·have e3:(x.fH==(0:Int))=true:=by simpa using c3
      simp only[e3,cond_true];by_cases c4:x.Entry.dH<commit
      ·rw[decide_eq_true c4,cond_true]
       refine bs (bH hx) ?_;rw[jd ah,hset,<-e0,ih'];simp[pX,c1,c2,c3,c4]
      ·rw[decide_eq_false c4,cond_false,jd ah,show a++x::b=a++[x]++b by simp,<-e0 x,ih']
       simp[pX,c1,c2,c3,c4]
     ·have e3:(x.fH==(0:Int))=false:=by simpa using c3
      simp only[e3,cond_false];rw[jd ah,show a++x::b=a++[x]++b by simp,<-e0 x,ih'];simp[pX,c3]
    ·have e2:(x.Entry.From==Bh)=false:=by simpa using c2
     simp only[e2,cond_false];rw[jd ah,show a++x::b=a++[x]++b by simp,<-e0 x,ih'];simp[pX,c2]
   ·have e1:(x.Entry.ID==id)=false:=by simpa using c1
    simp only[e1,cond_false];rw[jd ah,show a++x::b=a++[x]++b by simp,<-e0 x,ih'];simp[pX,c1]
 rw[axZ,qM hb ah,cond_true];exact bs (key rows [] n aC h) rfl
def ayG (s:aN)(v:List Int):Prop:=ayC v/\(v.length:Int)=s.iT
def acU (n:Nat)(s:aN)(e:Entry):Prop:=ayo e n/\ayG s e.Vec
structure CI (n:Nat)(s:aN)(k i:Nat)(rows added:List Row):Prop where
 rl:rows.length=k
 al:added.length<=i
 rg:∀r∈rows,acU n s r.Entry
 ag:∀r∈added,acU n s r.Entry
theorem CI.next {n:Nat}{s:aN}{k i:Nat}{rows added:List Row}(h:CI n s k i rows added):CI n s k (i+1) rows added:=⟨h.rl,Nat.le_succ_of_le h.al,h.rg,h.ag⟩
theorem CI.push {n:Nat}{s:aN}{k i:Nat}{rows added:List Row}(h:CI n s k i rows added){y:Row}(hy:acU n s y.Entry):CI n s k (i+1) rows (added++[y]):=
 ⟨h.rl,by rw[bE,List.length_singleton];exact Nat.succ_le_succ h.al,h.rg,fun r hr=>by
   rcases oW.1 hr with hr|hr
   ·exact h.ag r hr
   ·rw[iX.1 hr];exact hy⟩
end Sh
end
section
open Go aY
namespace So
variable {α β:Type}
theorem iM {c:Bool}{o r:Option β}(h:c=true)(k:o=r):(bif c then o else none)=r:=zY
theorem mG {c:Bool}{a b r:β}(h:c=true)(k:a=r):(bif c then a else b)=r:=zY
theorem kK {c:Bool}{a b r:β}(h:c=false)(k:b=r):(bif c then a else b)=r:=zY
theorem bd {γ:Type}{o:Option α}{a:α}{f:α->Option γ}{r:Option γ}(h:o=some a)(k:f a=r):o.bind f=r:=zY
theorem tq (P T:List α)(x:α){i:Int}(h:i=P.length):aR (P++x::T) i=some x:=by subst h;unfold aR;rw[if_pos ⟨ah,Cw⟩];simp
theorem set_mid (P T:List α)(x y:α){i:Int}(h:i=P.length):iO (P++x::T) i y=P++y::T:=by subst h;unfold iO;simp
theorem uJ {l:List α}{i:Int}(h0:0<=i)(h1:i<l.length):decide (0<=i/\i< (l.length:Int))=true:=decide_eq_true ⟨h0,h1⟩
theorem wr {i:Int}(h0: -(2^62)<=i)(h:i<=2^62):wrap .i64 i=i:=Bp
def QA (key:α->Int)(cmp:α×α->Option Int):Prop:=∀a b,∃r,cmp (a,b)=some r/\(r<0↔key a<key b)
def fP (key:α->Int)(l:List α):Prop:=l.Pairwise fun a b=>key a<=key b
def eB (key:α->Int)(s t:List α):Prop:=∀k:Int,s.filter (fun a=>key a==k)=t.filter (fun a=>key a==k)
def w9 (key:α->Int)(x:α):List α->List α
 | []=>[x]|y::r=>if key x<key y then y::w9 key x r else x::y::r
def uK (key:α->Int)(x:α)(S:List α):List α:=(w9 key x S.reverse).reverse
theorem ayH (key:α->Int)(x y:α)(S:List α):uK key x (S++[y])=if key x<key y then uK key x S++[y] else S++[y]++[x]:=by
 unfold uK;rw[List.reverse_append];show (if key x<key y then y::w9 key x S.reverse else x::y::S.reverse).reverse=_;split
 ·rw[List.reverse_cons]
 ·rw[List.reverse_cons,List.reverse_cons,List.reverse_reverse]
theorem akI (key:α->Int)(x:α):∀r:List α,(w9 key x r).length=r.length+1
 | []=>rfl|y::r=>by
  unfold w9;split
  ·rw[List.length_cons,akI key x r,List.length_cons]
  ·rfl
theorem Xb (key:α->Int)(x:α)(S:List α):(uK key x S).length=S.length+1:=by unfold uK;rw[List.length_reverse,akI,List.length_reverse]
theorem akJ (key:α->Int)(x z:α):∀r:List α,z∈w9 key x r↔z=x\/z∈r
 | []=>by simp[w9]|y::r=>by
  unfold w9;split
  ·rw[iC,akJ key x z r,iC]
   constructor
   ·rintro (h|h|h)
    ·exact .inr (.inl h)
    ·exact .inl h
    ·exact .inr (.inr h)
   ·rintro (h|h|h)
    ·exact .inr (.inl h)
    ·exact .inl h
    ·exact .inr (.inr h)
  ·rw[iC]
theorem akK (key:α->Int)(x:α):∀r:List α,r.Pairwise (fun a b=>key b<=key a)->(w9 key x r).Pairwise (fun a b=>key b<=key a)
 | [],_=>by simp[w9]|y::r,h=>by
  rw[List.pairwise_cons] at h;unfold w9;split
  ·rename_i hlt
   rw[List.pairwise_cons];refine⟨fun z hz=>?_,akK key x r h.2⟩;rcases (akJ key x z r).1 hz with rfl|hz
   ·omega
   ·exact h.1 z hz
  ·rename_i hlt
   rw[List.pairwise_cons,List.pairwise_cons];refine⟨fun z hz=>?_,h⟩;rcases iC.1 hz with rfl|hz
   ·omega
   ·have:=h.1 z hz;omega
theorem akL (key:α->Int)(x:α)(k:Int):∀r:List α,(w9 key x r).filter (fun a=>key a==k)=(x::r).filter (fun a=>key a==k)
 | []=>rfl|y::r=>by
  unfold w9;split
  ·rename_i hlt
   rw[List.filter_cons,akL key x k r];by_cases hy:key y=k
   ·have hx:¬key x=k:=ah
    simp[List.filter_cons,hx,hy]
   ·simp[List.filter_cons,hy]
  ·rfl
theorem ayI (key:α->Int)(x:α){S:List α}(h:fP key S):fP key (uK key x S):=by unfold fP uK at*;rw[List.pairwise_reverse];exact akK key x _ (by rw[List.pairwise_reverse];exact h)
theorem ayJ (key:α->Int)(x:α)(S:List α):eB key (uK key x S) (S++[x]):=by intro k;unfold uK;rw[List.filter_reverse,akL,<-List.filter_reverse,List.reverse_cons,List.reverse_reverse]
def zT (key:α->Int):List α->List α->List α
 |S,[]=>S|S,x::U=>zT key (uK key x S) U
theorem QB (key:α->Int):∀(U S:List α),fP key S->fP key (zT key S U)/\eB key (zT key S U) (S++U)/\(zT key S U).length=S.length+U.length
 | [],S,h=>⟨h,by rw[lF];exact fun _=>rfl,rfl⟩
 |x::U,S,h=>by
  obtain⟨h1,h2,h3⟩:=QB key U (uK key x S) (ayI key x h);refine⟨h1,fun k=>?_,?_⟩
  ·rw[show zT key S (x::U)=zT key (uK key x S) U from rfl,h2 k,qc,ayJ key x S k,<-qc,jD];rfl
  ·rw[show zT key S (x::U)=zT key (uK key x S) U from rfl,h3,Xb,List.length_cons];omega
section
variable {key:α->Int}{cmp:α×α->Option Int}(hc:QA key cmp){L4:Int->Int->Int->Nat->Int×List α->Option (PUnit×List α)}(h4:E4 cmp L4)
include hc h4
theorem ayK {A:List α}{x:α}{x2 x4:Int}:∀(k:Nat)(S:List α),S.length=k->∀(T:List α)(m:Nat),(A++(S++x::T)).length<2^62->k<m->
 L4 A.length x2 x4 m (((A.length+S.length:Nat):Int),A++(S++x::T))=some ((),A++(uK key x S++T)):=by
 intro k;induction k with
 |zero=>intro S hS T m hb hm;obtain rfl:=lZ hS;obtain⟨m,rfl⟩:∃m',m=m'+1:=⟨m-1,ah⟩;rw[h4];exact kK aC rfl
 |succ k ih=>
  intro S hS T m hb hm;obtain⟨m,rfl⟩:∃m',m=m'+1:=⟨m-1,ah⟩;obtain⟨S,y,rfl⟩:∃S' y,S=S'++[y]:=by
   have hne:S≠[]:=by rintro rfl;simp at hS
   exact⟨S.dropLast,S.getLast hne,(List.dropLast_concat_getLast hne).symm⟩
  have hS':S.length=k:=by simpa using hS
  have hl:A++((S++[y])++x::T)=(A++S)++y::x::T:=aC
  have hl2:A++((S++[y])++x::T)=(A++S++[y])++x::T:=aC
  have hlen:((A.length+(S++[y]).length:Nat):Int)=((A++S++[y]).length:Nat):=by simp[uP]
  have hb':(A++S).length+1+(x::T).length<2^62:=by rw[hl] at hb;simp only[bE,List.length_cons] at hb⊢;omega
  have hw:wrap .i64 (((A.length+(S++[y]).length:Nat):Int)-(1:Int))=((A++S).length:Nat):=by rw[wr ah K7];simp only[bE,List.length_cons,List.length_nil];omega
  have d1:decide ((0:Int)<=((A.length+(S++[y]).length:Nat):Int)/\((A.length+(S++[y]).length:Nat):Int)< (((A++((S++[y])++x::T)).length:Nat):Int))=true:=uJ ah oq;have d2:decide ((0:Int)<=(((A++S).length:Nat):Int)/\(((A++S).length:Nat):Int)< (((A++((S++[y])++x::T)).length:Nat):Int))=true:=uJ ah oq;have i1:aR (A++((S++[y])++x::T)) ((A.length+(S++[y]).length:Nat):Int)=some x:=by rw[hl2];exact tq _ _ _ hlen
  have i2:aR (A++((S++[y])++x::T)) (((A++S).length:Nat):Int)=some y:=by rw[hl];exact tq _ _ _ rfl
  have s1:iO (A++((S++[y])++x::T)) ((A.length+(S++[y]).length:Nat):Int) y=(A++S)++y::y::T:=by rw[hl2,set_mid _ _ _ _ hlen];simp
  obtain⟨r,hr,zU⟩:=hc x y;rw[h4,hw];refine mG (decide_eq_true jR) (iM d1 (bd i1 (iM d2 (bd i2 (bd hr ?_)))));rw[ayH];by_cases hk:key x<key y
  ·rw[if_pos hk]
   refine mG (decide_eq_true (zU.2 hk)) (iM d2 (bd i2 (iM d1 (bd i1 (iM d1 (bd i1 ?_))))));rw[s1];refine iM (uJ ah jR) (bd (tq _ _ _ rfl) ?_);rw[set_mid _ _ _ _ rfl];have:=ih S hS' (y::T) m (by simp only[bE,List.length_cons] at hb'⊢;omega) ah;rw[show ((A.length+S.length:Nat):Int)=(((A++S).length:Nat):Int) by rw[bE]] at this;rw[jD,this];simp
  ·rw[if_neg hk]
   refine kK (decide_eq_false fun h=>hk (zU.1 h)) ?_;simp
variable {n:Nat}{L1:Int->Int->Nat->Int×List α->Option (PUnit×List α)}(h1:E1 n L1 L4)
include h1
theorem ayL {A B:List α}:∀(U S:List α)(m:Nat),(A++(S++(U++B))).length<2^62->U.length<m->(S++U).length<n->
 L1 A.length ((A.length+S.length+U.length:Nat):Int) m (((A.length+S.length:Nat):Int),A++(S++(U++B)))=some ((),A++(zT key S U++B)):=by
 intro U;induction U with
 |nil=>intro S m hb hm hn;obtain⟨m,rfl⟩:∃m',m=m'+1:=⟨m-1,ah⟩;rw[h1];exact kK aC rfl
 |cons x U ih=>
  intro S m hb hm hn;obtain⟨m,rfl⟩:∃m',m=m'+1:=⟨m-1,ah⟩;rw[h1];refine mG (decide_eq_true Rh) (bd (ayK hc h4 S.length S rfl (U++B) n hb (by simp only[bE,List.length_cons] at hn;omega)) ?_);have:=ih (uK key x S) m (by simp only[bE,List.length_cons,Xb] at hb⊢;omega) (by simp only[List.length_cons] at hm;omega) (by simp only[bE,List.length_cons,Xb] at hn⊢;omega);rw[Xb] at this;rw[show ((A.length+S.length+(x::U).length:Nat):Int)=((A.length+(S.length+1)+U.length:Nat):Int) by rw[List.length_cons];omega,
   wr ah (by simp only[bE,List.length_cons] at hb;omega),show ((A.length+S.length:Nat):Int)+(1:Int)=((A.length+(S.length+1):Nat):Int) by omega]
  exact this
theorem ayM {A W B:List α}(hb:(A++(W++B)).length<2^61)(hn:W.length+1<n):∃W',fP key W'/\eB key W' W/\W'.length=W.length/\
 L1 A.length ((A.length+W.length:Nat):Int) n (wrap .i64 ((A.length:Nat)+(1:Int)),A++(W++B))=some ((),A++(W'++B)):=by
 have hA:A.length<2^61:=by simp only[bE] at hb;omega
 cases W with
 |nil=>obtain⟨m,rfl⟩:∃m',n=m'+1:=⟨n-1,ah⟩;refine⟨[],List.Pairwise.nil,fun _=>rfl,rfl,?_⟩;rw[h1,wr ah ah];exact kK (decide_eq_false Rj) rfl
 |cons x U=>obtain⟨g1,g2,g3⟩:=QB key U [x] (List.pairwise_singleton _ _);refine⟨zT key [x] U,g1,g2,by rw[g3,List.length_cons,List.length_cons,List.length_nil];omega,?_⟩;have:=ayL hc h4 h1 (A:=A) (B:=B) U [x] n (by simp only[bE,List.length_cons,List.length_nil] at hb⊢;omega) (by simp only[List.length_cons] at hn;omega) (by simp only[bE,List.length_cons,List.length_nil] at hn⊢;omega);rw[wr ah ah];rw[show ((A.length+(x::U).length:Nat):Int)=((A.length+[x].length+U.length:Nat):Int) by simp only[List.length_cons,List.length_nil];omega];exact this
end
end So
end
section
open Go Go.Proofs aY
namespace So
variable {α:Type}{key:α->Int}
theorem eB.perm [DecidableEq α]{s t:List α}(h:eB key s t):s.Perm t:=by rw[List.perm_iff_count];intro a;have e:=congrArg (List.count a) (h (key a));rw[List.count_filter aC,List.count_filter aC] at e;exact e
theorem eB.symm {s t:List α}(h:eB key s t):eB key t s:=fun k=>(h k).symm
theorem eB.filter {s t:List α}(h:eB key s t)(p:α->Bool):eB key (s.filter p) (t.filter p):=fun k=>by
 have:=congrArg (List.filter p) (h k);rw[List.filter_filter,List.filter_filter] at this⊢;simpa only[Bool.and_comm] using this
theorem uniq:∀{D D':List α},fP key D->fP key D'->eB key D D'->D=D'
 | [],[],_,_,_=>rfl| [],b::D',_,_,h=>by have:=h (key b);rw[List.filter_nil,oD aC] at this;cases this|a::D,[],_,_,h=>by have:=h (key a);rw[List.filter_nil,oD aC] at this;cases this|a::D,b::D',h1,h2,h=>by
  obtain⟨h1a,h1b⟩:=List.pairwise_cons.1 h1;obtain⟨ayN,ayO⟩:=List.pairwise_cons.1 h2;have ka:=h (key a);have kb:=h (key b);have hle:∀{x:α}{l:List α},(∀y∈l,key x<=key y)->∀z∈x::l,key x<=key z:=fun hh z hz=>by
   rcases iC.1 hz with rfl|hz
   ·exact Af _
   ·exact hh z hz
  have m1:a∈(b::D').filter fun x=>key x==key a:=by rw[<-ka];exact tN.2 ⟨fE ..,aC⟩
  have m2:b∈(a::D).filter fun x=>key x==key b:=by rw[kb];exact tN.2 ⟨fE ..,aC⟩
  have l1:=hle ayN a (tN.1 m1).1;have l2:=hle h1a b (tN.1 m2).1;have e:key b=key a:=Int.le_antisymm l1 l2;have hk:=ka;rw[oD aC,oD z8] at hk;injection hk with e1 e2
  subst e1;rw[uniq h1b ayO fun k=>?_];have hk:=h k;by_cases c:key a=k
  ·rw[oD CG,oD CG] at hk
   injection hk
  ·rw[nT CG,nT CG] at hk
   exact hk
def xg (key:α->Int)(l:List α):List α:=zT key [] l
theorem ayP (l:List α):fP key (xg key l):=(QB key l [] .nil).1
theorem acV (l:List α):eB key (xg key l) l:=(QB key l [] .nil).2.1
theorem akM (l:List α):(xg key l).length=l.length:=by have:=(QB key l [] .nil).2.2;unfold xg;rw[this,List.length_nil,nS]
theorem acW {l D:List α}(h1:fP key D)(h2:eB key D l):xg key l=D:=uniq (ayP l) h1 fun k=>(acV l k).trans (h2 k).symm
theorem ayQ {l:List α}{a:α}:a∈xg key l↔a∈l:=by
 have:=acV (key:=key) l (key a);constructor
 ·intro h
  have:a∈l.filter fun x=>key x==key a:=by rw[<-this];exact tN.2 ⟨h,aC⟩
  exact(tN.1 this).1
 ·intro h
  have:a∈(xg key l).filter fun x=>key x==key a:=by rw[this];exact tN.2 ⟨h,aC⟩
  exact(tN.1 this).1
theorem acX [DecidableEq α](l:List α):(xg key l).Perm l:=(acV l).perm
theorem ayR {l D:List α}(h1:D.Pairwise fun a b=>key a<key b)(h2:D.Perm l):xg key l=D:=by
 refine acW (h1.imp fun h=>Int.le_of_lt h) fun k=>?_;have hp:=h2.filter fun a=>key a==k;have hs:(D.filter fun a=>key a==k).Pairwise fun a b=>key a<key b:=h1.filter _;generalize hF:(D.filter fun a=>key a==k)=F at hp hs;have hk:∀a∈F,key a=k:=fun a ha=>by rw[<-hF] at ha;simpa using (tN.1 ha).2
 match F,hs,hk,hp with
 | [],_,_,hp=>exact hp.nil_eq| [a],_,_,hp=>exact(List.singleton_perm.1 hp).symm▸rfl|a::b::F,hs,hk,_=>have:=(List.pairwise_cons.1 hs).1 b (fE ..);rw[hk a (fE ..),hk b (iK _ (fE ..))] at this;exact absurd this (Int.lt_irrefl _)
end So
namespace Sh
abbrev mU (r:Row):Int:=r.Entry.From
def Path:Int->List Row->Int->Prop
 |a,[],z=>a=z|a,r::l,z=>r.Entry.From=a/\a<r.Entry.To/\Path r.Entry.To l z
theorem Path.le:∀{l:List Row}{a z:Int},Path a l z->a<=z
 | [],_,_,h=>Int.le_of_eq h|_::_,_,_,⟨_,h2,h3⟩=>Int.le_trans (Int.le_of_lt h2) h3.le
theorem Path.append:∀{l k:List Row}{a m z:Int},Path a l m->Path m k z->Path a (l++k) z
 | [],_,_,_,_,h,g=>by cases h;exact g|_::_,_,_,_,_,⟨h1,h2,h3⟩,g=>⟨h1,h2,h3.append g⟩
theorem Path.split:∀{l k:List Row}{a z:Int},Path a (l++k) z->∃m,Path a l m/\Path m k z
 | [],_,a,_,h=>⟨a,rfl,h⟩|_::_,_,_,_,⟨h1,h2,h3⟩=>by obtain⟨m,g1,g2⟩:=Path.split h3;exact⟨m,⟨h1,h2,g1⟩,g2⟩
theorem Path.all:∀{l:List Row}{a z:Int},Path a l z->∀r∈l,a<=r.Entry.From/\r.Entry.From<r.Entry.To/\r.Entry.To<=z
 | [],_,_,_,r,hr=>xC|x::l,a,z,⟨h1,h2,h3⟩,r,hr=>by
  rcases iC.1 hr with rfl|hr
  ·exact⟨Int.le_of_eq h1.symm,h1▸h2,h3.le⟩
  ·obtain⟨g1,g2,g3⟩:=h3.all r hr
   exact⟨Int.le_trans (Int.le_of_lt h2) g1,g2,g3⟩
theorem Path.strict:∀{l:List Row}{a z:Int},Path a l z->l.Pairwise fun x y=>x.Entry.To<=y.Entry.From
 | [],_,_,_=>.nil|x::l,a,z,⟨_,_,h3⟩=>List.pairwise_cons.2 ⟨fun r hr=>(h3.all r hr).1,h3.strict⟩
theorem Path.lt {l:List Row}{a z:Int}(h:Path a l z):l.Pairwise fun x y=>mU x<mU y:=by
 have key:∀{l:List Row}{a z:Int},Path a l z->l.Pairwise fun x y=>mU x<mU y:=by
  intro l;induction l with
  |nil=>intro _ _ _;exact .nil|cons x l ih=>rintro a z ⟨h1,h2,h3⟩;refine List.pairwise_cons.2 ⟨fun r hr=>?_,ih h3⟩;have:=(h3.all r hr).1;show x.Entry.From<r.Entry.From;omega
 exact key h
theorem Path.head {r:Row}{l:List Row}{a z:Int}(h:Path a (r::l) z):r.Entry.From=a:=h.1
theorem Path.part (f:Int):∀{l:List Row}{a z:Int},Path a l z->∃(A M C:List Row) (p q:Int),l=A++(M++C)/\Path a A p/\Path p M q/\Path q C z/\(∀r∈A,r.Entry.To<=f)/\(M=[]/\p=q\/∃m,M=[m]/\m.Entry.From<f/\f<m.Entry.To)/\∀r∈C,f<=r.Entry.From
 | [],a,z,h=>⟨[],[],[],a,a,rfl,rfl,rfl,h,fun _ h=>bC,.inl ⟨rfl,rfl⟩,fun _ h=>bC⟩
 |r::l,a,z,⟨h1,h2,h3⟩=>by
  by_cases c:r.Entry.To<=f
  ·obtain⟨A,M,C,p,q,e,g1,g2,g3,g4,g5,g6⟩:=Path.part f h3
   exact⟨r::A,M,C,p,q,by rw[e];rfl,⟨h1,h2,g1⟩,g2,g3,fun x hx=>by
    rcases iC.1 hx with rfl|hx
    ·exact c
    ·exact g4 x hx,g5,g6⟩
  ·by_cases c2:r.Entry.From<f
   ·exact⟨[],[r],l,a,r.Entry.To,rfl,rfl,⟨h1,h2,rfl⟩,h3,fun _ h=>bC,.inr ⟨r,rfl,c2,ah⟩,fun x hx=>by have:=(h3.all x hx).1;omega⟩
   ·exact⟨[],[],r::l,a,a,rfl,rfl,rfl,⟨h1,h2,h3⟩,fun _ h=>bC,.inl ⟨rfl,rfl⟩,fun x hx=>by
     rcases iC.1 hx with rfl|hx
     ·omega
     ·have:=(h3.all x hx).1
      omega⟩
end Sh
end
section
open Go Go.Proofs aY
namespace Sh
def ig (id:Int)(r:Row):Bool:=r.Entry.ID==id
def dI (id:Int)(r:Row):Bool:=ig id r&& r.fH==0
def gM (l:List Row)(id:Int):List Row:=So.xg mU (l.filter (dI id))
def bO (l:List Row)(id:Int):Int:=(l.filter (ig id)).foldl (fun v r=>imax v r.Entry.dw) 0
abbrev fq:=Entry->Int×Int
def gN (f:Int):fq:=fun x=>(x.From,kG x.To (imax f x.From))
def iH (o u:Int):fq:=fun x=>bif x.From==o then (kG u x.To,x.To) else (imax x.From (kG u x.To),x.To)
def dY (d:fq)(x:Entry):Bool:=(d x).1==x.From&& (d x).2==x.To
def lC (d:fq)(id c:Int)(r:Row):Row:=bif dI id r&& !(dY d r.Entry) then ⟨r.Entry,c⟩ else r
def kC (d:fq)(c:Int)(r:Row):Option Row:=bif dY d r.Entry then none else bif decide ((d r.Entry).1< (d r.Entry).2) then some ⟨⟨r.Entry.ID,r.Entry.dw,r.Entry.bP,r.Entry.dn,(d r.Entry).1,(d r.Entry).2,c,r.Entry.Vec,r.Entry.aQ⟩,0⟩ else none
def jY (v:Int)(x:Entry):Entry:=⟨x.ID,v,x.bP,x.dn,x.From,x.To,x.dH,x.Vec,x.aQ⟩
def fD:Int->List Row->List Row
 |_,[]=>[]|v,r::l=>⟨jY (v+1) r.Entry,r.fH⟩::fD (v+1) l
def jC (d:Option fq)(l:List Row)(id c:Int):List Row:=match d with
 |none=>l|some d=>l.map (lC d id c)
def dN (d:Option fq)(l:List Row)(id c:Int):List Row:=match d with
 |none=>[]|some d=>So.xg mU ((l.filter (dI id)).filterMap (kC d c))
def Bj:Option Entry->List Row
 |none=>[]|some x=>[⟨x,0⟩]
def Xc (ent:Entry->Int)(k:Int):Option Entry->Int
 |none=>0|some x=>ent (jY k x)
def jV (ent:Entry->Int)(d:Option fq)(more:Option Entry)(b:Book)(e:Event):Book×Int:=
 let v:=bO b.Rows e.ID
 let mv:=dN d b.Rows e.ID e.aB
 let added:=fD v (mv++Bj more)
 let err:=Xc ent (v+(mv.length:Int)+1) more;bif err !=0 then (b,err) else bif decide (65536<b.Rows.length+added.length) then (b,2) else (⟨b.aN,e.aB,e.Day,b.dL++[e.Day],jC d b.Rows e.ID e.aB++added⟩,0)
def mD (x:Row)(l:List Row):Int:=((x::l).getLast (List.cons_ne_nil x l)).Entry.To
def ug (ent:Entry->Int)(b:Book)(e:Event):Book×Int:=bif (bif (bif (bif e.aB !=b.aB+1 then true else decide (e.aB>1073741824)) then true else decide (e.Day<b.Day)) then true else decide (e.Day>1048576)) then (b,9)else bif decide (e.Kind<1)||decide (e.Kind>5) then (b,1)else bif e.Kind==1 then bif b.Rows.any (ig e.ID) then (b,6) else jV ent none (some ⟨e.ID,0,e.bP,e.Day,e.Until,1048577,e.aB,e.Vec,e.aQ⟩) b e else bif e.Kind==5 then jV ent none none b e else match gM b.Rows e.ID with
  | []=>(b,5)|x::l=>bif e.Kind==2 then bif decide (e.From<0)||decide (mD x l<=imax e.From x.Entry.From) then (b,9)else jV ent (some (gN (imax e.From x.Entry.From))) (some ⟨x.Entry.ID,x.Entry.dw,x.Entry.bP,x.Entry.dn,imax e.From x.Entry.From,mD x l,e.aB,e.Vec,e.aQ⟩) b e else bif e.Kind==3 then bif decide (e.From<0)||decide (mD x l<=e.From) then (b,9) else jV ent (some (gN e.From)) none b e else bif decide (x.Entry.From<=e.Day)||x.Entry.From==e.Until then (b,4)else bif decide (e.Until<e.Day)||decide (mD x l<=e.Until) then (b,9) else jV ent (some (iH x.Entry.From e.Until)) none b e
def nk (fit:List Int->List Attr->Int)(x:Entry):Int:=bif decide (x.ID<1)||decide (x.ID>1073741824)||decide (x.bP<1)||decide (x.bP>1073741824)||decide (x.dw<1)||decide (x.dw>1073741824) then 1 else bif decide (x.dn<0)||decide (x.From<x.dn)||decide (x.To<=x.From)||decide (x.To>1048577)||decide (x.From>1048576)||decide (x.dH<1)||decide (x.dH>1073741824) then 9 else fit x.Vec x.aQ
structure Bl (fit:List Int->List Attr->Int)(x:Entry):Prop where
 id:1<=x.ID
 id2:x.ID<=1073741824
 QC:1<=x.bP
 QD:x.bP<=1073741824
 ver:1<=x.dw
 ayS:x.dw<=1073741824
 fl:0<=x.dn
 ff:x.dn<=x.From
 ft:x.From<x.To
 to:x.To<=1048577
 fm:x.From<=1048576
 bo:1<=x.dH
 akN:x.dH<=1073741824
 QE:fit x.Vec x.aQ=0
theorem acY {fit:List Int->List Attr->Int}{x:Entry}:nk fit x=0↔Bl fit x:=by
 unfold nk;constructor
 ·intro h
  cases c1:(decide (x.ID<1)||decide (x.ID>1073741824)||decide (x.bP<1)||decide (x.bP>1073741824)||decide (x.dw<1)||decide (x.dw>1073741824)) with
  |true=>rw[c1] at h;exact absurd (show (1:Int)=0 from h) eO|false=>
  cases c2:(decide (x.dn<0)||decide (x.From<x.dn)||decide (x.To<=x.From)||decide (x.To>1048577)||decide (x.From>1048576)||decide (x.dH<1)||decide (x.dH>1073741824)) with
  |true=>rw[c1,c2] at h;exact absurd (show (9:Int)=0 from h) eO|false=>
  rw[c1,c2] at h;simp only[kP,decide_eq_false_iff_not] at c1 c2;exact⟨ah,ah,ah,ah,ah,ah,ah,ah,ah,ah,ah,ah,ah,h⟩
 ·intro h
  have c1:(decide (x.ID<1)||decide (x.ID>1073741824)||decide (x.bP<1)||decide (x.bP>1073741824)||decide (x.dw<1)||decide (x.dw>1073741824))=false:=by simp only[kP,decide_eq_false_iff_not];have:=h.id;have:=h.id2;have:=h.QC;have:=h.QD;have:=h.ver;have:=h.ayS;omega
  have c2:(decide (x.dn<0)||decide (x.From<x.dn)||decide (x.To<=x.From)||decide (x.To>1048577)||decide (x.From>1048576)||decide (x.dH<1)||decide (x.dH>1073741824))=false:=by simp only[kP,decide_eq_false_iff_not];have:=h.fl;have:=h.ff;have:=h.ft;have:=h.to;have:=h.fm;have:=h.bo;have:=h.akN;omega
  rw[c1,c2];exact h.QE
theorem ayT {a b:Int}(h:a<=b):kG a b=a:=by unfold kG;omega
theorem xk:∀(l:List Row)(v:Int),(fD v l).length=l.length
 | [],_=>rfl|_::l,v=>by show (fD (v+1) l).length+1=_;rw[xk l];rfl
theorem akO:∀(l k:List Row)(v:Int),fD v (l++k)=fD v l++fD (v+(l.length:Int)) k
 | [],k,v=>by simp[fD]|r::l,k,v=>by
  show _::fD (v+1) (l++k)=_::(fD (v+1) l++_);rw[akO l k];have:v+1+(l.length:Int)=v+(((r::l).length:Nat):Int):=tH
  rw[this]
theorem acZ:∀(l:List Row)(v:Int),∀r∈fD v l,∃x∈l,∃w,v<w/\w<=v+(l.length:Int)/\r=⟨jY w x.Entry,x.fH⟩
 | [],_,r,h=>bC|x::l,v,r,h=>by
  rcases iC.1 (show r∈(⟨jY (v+1) x.Entry,x.fH⟩:Row)::fD (v+1) l from h) with rfl|h
  ·exact⟨x,fE ..,v+1,ah,tH,rfl⟩
  ·obtain⟨y,h1,w,h2,h3,h4⟩:=acZ l (v+1) r h
   exact⟨y,iK _ h1,w,ah,tH,h4⟩
theorem ac0:∀(l:List Row)(v:Int),v<=l.foldl (fun v r=>imax v r.Entry.dw) v/\(∀r∈l,r.Entry.dw<=l.foldl (fun v r=>imax v r.Entry.dw) v)/\∀k,v<=k->(∀r∈l,r.Entry.dw<=k)->l.foldl (fun v r=>imax v r.Entry.dw) v<=k
 | [],v=>⟨Af _,fun _ h=>bC,fun _ h _=>h⟩
 |x::l,v=>by
  obtain⟨h1,h2,h3⟩:=ac0 l (imax v x.Entry.dw);have hx:v<=imax v x.Entry.dw/\x.Entry.dw<=imax v x.Entry.dw:=by unfold imax;omega
  rw[List.foldl_cons];refine⟨ah,fun r hr=>?_,fun k hk hr=>h3 k ?_ fun r h=>hr r (iK _ h)⟩
  ·rcases iC.1 hr with rfl|hr
   ·omega
   ·exact h2 r hr
  ·have:=hr x (fE ..)
   unfold imax;omega
theorem KO (l:List Row)(id:Int):0<=bO l id:=(ac0 _ _).1
theorem QF {l:List Row}{id k:Int}(hk:0<=k)(h:∀r∈l,r.Entry.dw<=k):bO l id<=k:=(ac0 _ _).2.2 k hk fun r hr=>h r (tN.1 hr).1
theorem QG {l:List Row}{id:Int}{r:Row}:r∈gM l id↔r∈l/\r.Entry.ID=id/\r.fH=0:=by unfold gM;rw[So.ayQ,tN];simp[dI,ig]
theorem Xd (l:List Row)(id:Int):(gM l id).Perm (l.filter (dI id)):=So.acX _
theorem akP (d:fq)(id c:Int)(r:Row):(lC d id c r).Entry=r.Entry:=by unfold lC;cases (dI id r&& !(dY d r.Entry))<;>rfl
theorem ayU {d:fq}{id c:Int}(hc:c≠0)(r:Row):dI id (lC d id c r)=(dI id r&& dY d r.Entry):=by
 have hc':(c==(0:Int))=false:=RD
 unfold lC;cases h1:dI id r
 ·simp[h1]
 ·cases h2:dY d r.Entry
  ·simp[dI,ig,hc']
  ·simp[h1]
theorem Gz {d:fq}{id c:Int}{r:Row}(h:(dI id r&& !(dY d r.Entry))=false):lC d id c r=r:=by unfold lC;rw[h];rfl
theorem ac1 {id id':Int}(h:id≠id'){r:Row}(hr:dI id r=true):dI id' r=false:=by simp only[dI,ig,iP,beq_iff_eq] at hr;simp[dI,ig,hr.1,h]
theorem ayV {d:fq}{id id' c:Int}(hne:id≠id')(r:Row):dI id' (lC d id c r)=dI id' r:=by
 unfold lC;cases h:(dI id r&& !(dY d r.Entry))
 ·rfl
 ·have h1:dI id r=true:=by simp at h;exact h.1
  rw[ac1 hne h1,cond_true];simp only[dI,ig,iP,beq_iff_eq] at h1;simp[dI,ig,h1.1,hne]
theorem ayW {d:fq}{id c:Int}(hc:c≠0)(l:List Row):(l.map (lC d id c)).filter (dI id)=(l.filter (dI id)).filter fun r=>dY d r.Entry:=by
 induction l with
 |nil=>rfl|cons r l ih=>
  rw[fG];have h:=ayU (d:=d) (id:=id) hc r;cases h1:dI id r
  ·rw[h1,Bool.false_and] at h
   rw[nT Lr,nT (by rw[h1];simp),ih]
  ·rw[h1,Bool.true_and] at h
   rw[oD h1];cases h2:dY d r.Entry
   ·rw[h2] at h
    rw[nT Lr,nT (by rw[h2];simp),ih]
   ·rw[h2] at h
    have:lC d id c r=r:=Gz (by rw[h2];simp);rw[this,oD h1,oD (p:=fun r:Row=>dY d r.Entry) h2,ih]
theorem ayX {d:fq}{id id' c:Int}(hne:id≠id')(l:List Row):(l.map (lC d id c)).filter (dI id')=l.filter (dI id'):=by
 induction l with
 |nil=>rfl|cons r l ih=>
  rw[fG];have h:=ayV (d:=d) (c:=c) hne r;cases h1:dI id' r
  ·rw[h1] at h
   rw[nT Lr,nT (by rw[h1];simp),ih]
  ·rw[h1] at h
   have:lC d id c r=r:=Gz (by
    cases h2:dI id r
    ·rfl
    ·rw[ac1 hne h2] at h1;cases h1)
   rw[this,oD h1,oD h1,ih]
theorem akQ {α:Type}{l k:List α}(h:l.Perm k)(hk:k.length<=1):l=k:=by
 match k,hk,h with
 | [],_,h=>exact h.eq_nil| [a],_,h=>exact List.perm_singleton.1 h|_::_::_,hk,_=>simp at hk
theorem ayY {f:Int}{x:Entry}(h:x.From<x.To)(hf:x.To<=f):dY (gN f) x=true:=by simp only[dY,gN,iP,beq_iff_eq,true_and];unfold kG imax;omega
theorem akR {f:Int}{x:Entry}(h1:x.From<f)(h2:f<x.To):gN f x=(x.From,f)/\dY (gN f) x=false:=by
 have:gN f x=(x.From,f):=by simp only[gN,aP,true_and];unfold kG imax;omega
 refine⟨this,?_⟩;simp only[dY,this,Bool.and_eq_false_iff];right;simp;omega
theorem ayZ {f:Int}{x:Entry}(h:x.From<x.To)(hf:f<=x.From):gN f x=(x.From,x.From)/\dY (gN f) x=false:=by
 have:gN f x=(x.From,x.From):=by simp only[gN,aP,true_and];unfold kG imax;omega
 refine⟨this,?_⟩;simp only[dY,this,Bool.and_eq_false_iff];right;simp;omega
theorem filter_all {α:Type}{p:α->Bool}{l:List α}(h:∀a∈l,p a=true):l.filter p=l:=List.filter_eq_self.2 h
theorem filter_none {α:Type}{p:α->Bool}{l:List α}(h:∀a∈l,p a=false):l.filter p=[]:=List.filter_eq_nil_iff.2 fun a ha=>by rw[h a ha];simp
theorem Ep {α β:Type}{g:α->Option β}:∀{l:List α},(∀a∈l,g a=none)->l.filterMap g=[]
 | [],_=>rfl|a::l,h=>by rw[List.filterMap_cons_none (h a (fE ..))];exact Ep fun b hb=>h b (iK _ hb)
theorem GA {d:fq}{c:Int}{r:Row}(h:dY d r.Entry=true):kC d c r=none:=by unfold kC;rw[h];rfl
theorem Xe {d:fq}{c:Int}{r:Row}(h:dY d r.Entry=false)(h2:¬(d r.Entry).1< (d r.Entry).2):kC d c r=none:=by unfold kC;rw[h,cond_false,decide_eq_false h2];rfl
theorem QH {d:fq}{c:Int}{r:Row}{f t:Int}(h:dY d r.Entry=false)(he:d r.Entry=(f,t))(h2:f<t):kC d c r=some ⟨⟨r.Entry.ID,r.Entry.dw,r.Entry.bP,r.Entry.dn,f,t,c,r.Entry.Vec,r.Entry.aQ⟩,0⟩:=by unfold kC;rw[h,he,cond_false,decide_eq_true h2];rfl
structure Cut (d:fq)(c:Int)(L K V:List Row):Prop where
 keep:L.filter (fun r=>dY d r.Entry)=K
 ac2:L.filterMap (kC d c)=V
 one:V.length<=1
theorem Cut.before {L:List Row}{a z f c:Int}(h:Path a L z):∃K V p q,Cut (gN f) c L K V/\Path a K p/\(∀r∈V,∃m∈L,r=⟨⟨m.Entry.ID,m.Entry.dw,m.Entry.bP,m.Entry.dn,m.Entry.From,f,c,m.Entry.Vec,m.Entry.aQ⟩,0⟩/\m.Entry.From<f/\f<m.Entry.To)/\Path p V q/\(a<=f->f<=z->q=f)/\(f<=a->K++V=[]):=by
 obtain⟨A,M,C,p,q,e,g1,g2,g3,g4,g5,g6⟩:=h.part f;have hall:=h.all;have hA:∀r∈A,dY (gN f) r.Entry=true:=fun r hr=>ayY (hall r (by rw[e];exact uR _ hr)).2.1 (g4 r hr);have hC:∀r∈C,gN f r.Entry=(r.Entry.From,r.Entry.From)/\dY (gN f) r.Entry=false:=fun r hr=>ayZ (hall r (by rw[e];exact qQ _ (qQ _ hr))).2.1 (g6 r hr);have hM:∀r∈M,gN f r.Entry=(r.Entry.From,f)/\dY (gN f) r.Entry=false/\r.Entry.From<f/\f<r.Entry.To:=fun r hr=>by
  rcases g5 with ⟨rfl,_⟩| ⟨m,rfl,m1,m2⟩
  ·cases hr
  ·rw[iX.1 hr]
   exact⟨(akR m1 m2).1,(akR m1 m2).2,m1,m2⟩
 have kA:L.filter (fun r=>dY (gN f) r.Entry)=A:=by rw[e,qc,qc,filter_all hA,filter_none fun r hr=>(hM r hr).2.1,filter_none fun r hr=>(hC r hr).2];simp
 have QI:L.filterMap (kC (gN f) c)=M.filterMap (kC (gN f) c):=by rw[e,List.filterMap_append,List.filterMap_append,Ep fun r hr=>GA (hA r hr),Ep (l:=C) fun r hr=>Xe (hC r hr).2 (by rw[(hC r hr).1];simp)];simp
 rcases g5 with ⟨rfl,rfl⟩| ⟨m,rfl,m1,m2⟩
 ·refine⟨A,[],p,p,⟨kA,QI,aC⟩,g1,fun r hr=>xC,rfl,fun h1 h2=>?_,fun hf=>?_⟩
  ·
   have hp1:p<=f:=by
    rcases A.eq_nil_or_concat with rfl| ⟨A',x,rfl⟩
    ·have:a=p:=g1;omega
    ·rw[List.concat_eq_append] at g1 g4
     obtain⟨mm,_,w2⟩:=g1.split;have:=w2.2.2;have h3:x.Entry.To=p:=this;have:=g4 x (qQ _ (fE ..));omega
   cases C with
   |nil=>have:p=z:=g3;omega|cons x C=>have:=g3.1;have:=g6 x (fE ..);omega
  ·cases A with
   |nil=>rfl|cons x A=>have:=g4 x (fE ..);have:=g1.1;have:=g1.2.1;omega
 ·have hmv:kC (gN f) c m=some ⟨⟨m.Entry.ID,m.Entry.dw,m.Entry.bP,m.Entry.dn,m.Entry.From,f,c,m.Entry.Vec,m.Entry.aQ⟩,0⟩:=QH (hM m (fE ..)).2.1 (hM m (fE ..)).1 m1
  refine⟨A,[⟨⟨m.Entry.ID,m.Entry.dw,m.Entry.bP,m.Entry.dn,m.Entry.From,f,c,m.Entry.Vec,m.Entry.aQ⟩,0⟩],p,f,⟨kA,?_,aC⟩,g1,fun r hr=>?_,⟨g2.1,by have:=g2.1;show p<f;omega,rfl⟩,fun _ _=>rfl,fun hf=>?_⟩
  ·rw[QI,List.filterMap_cons_some hmv];rfl
  ·rw[iX.1 hr]
   exact⟨m,by rw[e];simp,rfl,m1,m2⟩
  ·have:=g1.le
   have:=g2.1;omega
theorem ay0 {o u:Int}{x:Entry}(ho:x.From≠o)(h:x.From<x.To)(hu:x.To<=u):iH o u x=(x.To,x.To)/\dY (iH o u) x=false:=by
 have ho':(x.From==o)=false:=by simpa using ho
 have:iH o u x=(x.To,x.To):=by simp only[iH,ho',cond_false,aP,and_true];unfold kG imax;omega
 refine⟨this,?_⟩;simp only[dY,this,Bool.and_eq_false_iff];left;simp;omega
theorem akS {o u:Int}{x:Entry}(ho:x.From≠o)(h:x.From<x.To)(hu:u<=x.From):dY (iH o u) x=true:=by
 have ho':(x.From==o)=false:=by simpa using ho
 simp only[dY,iH,ho',cond_false,iP,beq_iff_eq,and_true];unfold kG imax;omega
theorem akT {o u:Int}{x:Entry}(h1:x.From<u\/x.From=o)(hne:x.From≠u)(h2:u<x.To):iH o u x=(u,x.To)/\dY (iH o u) x=false:=by
 have:iH o u x=(u,x.To):=by
  by_cases c:x.From=o
  ·have c':(x.From==o)=true:=by simpa using c
   simp only[iH,c',cond_true,aP,and_true];unfold kG;omega
  ·have c':(x.From==o)=false:=by simpa using c
   simp only[iH,c',cond_false,aP,and_true];unfold kG imax;omega
 refine⟨this,?_⟩;simp only[dY,this,Bool.and_eq_false_iff];left;simp;omega
theorem ay1 {u:Int}{x:Entry}(h:x.From<x.To)(hu:x.To<=u):iH x.From u x=(x.To,x.To)/\dY (iH x.From u) x=false:=by
 have:iH x.From u x=(x.To,x.To):=by simp only[iH,beq_self_eq_true,cond_true,aP,and_true];unfold kG;omega
 refine⟨this,?_⟩;simp only[dY,this,Bool.and_eq_false_iff];left;simp;omega
theorem Cut.KP {L:List Row}{x:Row}{a z u c:Int}(h:Path a (x::L) z)(hne:a≠u)(hu:u<z):∃K V p,Cut (iH a u) c (x::L) K V/\Path u V p/\Path p K z/\∀r∈V,∃m∈x::L,r=⟨⟨m.Entry.ID,m.Entry.dw,m.Entry.bP,m.Entry.dn,u,m.Entry.To,c,m.Entry.Vec,m.Entry.aQ⟩,0⟩/\u<m.Entry.To:=by
 have hx:x.Entry.From=a:=h.1;have hall:=h.all;by_cases aBN:u<a
 ·
  have hxt:x.Entry.From<x.Entry.To:=(hall x (fE ..)).2.1;obtain⟨e1,e2⟩:=akT (o:=a) (u:=u) (x:=x.Entry) (.inr hx) ah ah;have hL:∀r∈L,dY (iH a u) r.Entry=true:=fun r hr=>by obtain⟨w1,w2,_⟩:=h.2.2.all r hr;exact akS (by have:=h.2.1;omega) w2 (by have:=h.2.1;omega)
  refine⟨L,_,x.Entry.To,⟨?_,List.filterMap_cons_some (QH e2 e1 ah),?_⟩,?_,h.2.2,?_⟩
  ·rw[nT (by rw[e2];simp),filter_all hL]
  ·rw[Ep fun r hr=>GA (hL r hr)];simp
  ·rw[Ep fun r hr=>GA (hL r hr)]
   exact⟨rfl,by show u<x.Entry.To;omega,rfl⟩
  ·rw[Ep fun r hr=>GA (hL r hr)]
   intro r hr;rw[iX.1 hr];exact⟨x,fE ..,rfl,ah⟩
 ·obtain⟨A,M,C,p,q,e,g1,g2,g3,g4,g5,g6⟩:=h.part u
  have aBO:a<u:=ah
  have hA:∀r∈A,iH a u r.Entry=(r.Entry.To,r.Entry.To)/\dY (iH a u) r.Entry=false:=fun r hr=>by
   have w:=(hall r (by rw[e];exact uR _ hr)).2.1;by_cases cr:r.Entry.From=a
   ·rw[<-cr];exact ay1 w (g4 r hr)
   ·exact ay0 cr w (g4 r hr)
  have hC:∀r∈C,dY (iH a u) r.Entry=true:=fun r hr=>by have w:=(hall r (by rw[e];exact qQ _ (qQ _ hr))).2.1;have:=g6 r hr;exact akS ah w ah
  have kA:(x::L).filter (fun r=>dY (iH a u) r.Entry)=M.filter (fun r=>dY (iH a u) r.Entry)++C:=by rw[e,qc,qc,filter_none fun r hr=>(hA r hr).2,filter_all hC];rfl
  have QI:(x::L).filterMap (kC (iH a u) c)=M.filterMap (kC (iH a u) c):=by rw[e,List.filterMap_append,List.filterMap_append,Ep fun r hr=>Xe (hA r hr).2 (by rw[(hA r hr).1];simp),Ep (l:=C) fun r hr=>GA (hC r hr)];simp
  rcases g5 with ⟨rfl,rfl⟩| ⟨m,rfl,m1,m2⟩
  ·have hp:p=u:=by
    have hp1:p<=u:=by
     rcases A.eq_nil_or_concat with rfl| ⟨A',y,rfl⟩
     ·have:a=p:=g1;omega
     ·rw[List.concat_eq_append] at g1 g4
      obtain⟨mm,_,w2⟩:=g1.split;have h3:y.Entry.To=p:=w2.2.2;have:=g4 y (qQ _ (fE ..));omega
    cases C with
    |nil=>have:p=z:=g3;omega|cons y C=>have:=g3.1;have:=g6 y (fE ..);omega
   subst hp;exact⟨C,[],p,⟨kA,QI,aC⟩,rfl,g3,fun r hr=>xC⟩
  ·obtain⟨e1,e2⟩:=akT (o:=a) (u:=u) (x:=m.Entry) (.inl m1) ah m2
   have e3:[m].filterMap (kC (iH a u) c)=[⟨⟨m.Entry.ID,m.Entry.dw,m.Entry.bP,m.Entry.dn,u,m.Entry.To,c,m.Entry.Vec,m.Entry.aQ⟩,0⟩]:=by rw[List.filterMap_cons_some (QH e2 e1 m2)];rfl
   refine⟨C,_,q,⟨?_,QI.trans e3,aC⟩,⟨rfl,m2,g2.2.2⟩,g3,fun r hr=>?_⟩
   ·rw[kA,nT (by rw[e2];simp)];rfl
   ·rw[iX.1 hr]
    exact⟨m,by rw[e];simp,rfl,m2⟩
def xq (c id:Int)(r:Row):Bool:=ig id r&& decide (r.Entry.dH<=c)&& (r.fH==0||decide (c<r.fH))
def GD (a b:Row):Prop:=a.Entry.To<=b.Entry.From\/b.Entry.To<=a.Entry.From
theorem ay2 {a b:Row}(h:GD a b):GD b a:=h.symm
structure Inv (fit:List Int->List Attr->Int)(b:Book):Prop where
 com:0<=b.aB
 QJ:b.aB<=1073741824
 day:0<=b.Day
 ay3:b.Day<=1048576
 rows:b.Rows.length<=65536
 ent:∀r∈b.Rows,Bl fit r.Entry
 born:∀r∈b.Rows,r.Entry.dH<=b.aB
 QK:∀r∈b.Rows,r.fH=0\/r.Entry.dH<r.fH/\r.fH<=b.aB
 ver:∀r∈b.Rows,r.Entry.dw<=(b.Rows.length:Int)
 filed:∀r∈b.Rows,r.Entry.dn<=b.Day
 path:∀id,∃a z,Path a (gM b.Rows id) z
 apart:∀c id,(b.Rows.filter (xq c id)).Pairwise GD
def Xf (d:Option fq)(r:Row):Bool:=match d with
 |none=>true|some d=>dY d r.Entry
def tu (b:Book)(e:Event)(d:Option fq)(X:List Row):Book:=⟨b.aN,e.aB,e.Day,b.dL++[e.Day],jC d b.Rows e.ID e.aB++fD (bO b.Rows e.ID) X⟩
theorem Xg:∀{l:List Row}{a z v:Int},Path a l z->Path a (fD v l) z
 | [],_,_,_,h=>h|_::_,_,_,_,⟨h1,h2,h3⟩=>⟨h1,h2,Xg h3⟩
theorem GH (d:Option fq)(id c:Int)(l:List Row):∀r'∈jC d l id c,∃r∈l,r'.Entry=r.Entry/\(r'=r\/dI id r=true/\r'.fH=c):=by
 intro r' h;cases d with
 |none=>exact⟨r',h,rfl,.inl rfl⟩|some d=>
  obtain⟨r,hr,rfl⟩:=EF.1 h;refine⟨r,hr,akP ..,?_⟩;unfold lC;cases hb:(dI id r&& !(dY d r.Entry))
  ·exact .inl rfl
  ·exact .inr ⟨by simp at hb;exact hb.1,rfl⟩
theorem GI (d:Option fq)(id c:Int)(l:List Row):(jC d l id c).length=l.length:=by
 cases d
 ·rfl
 ·exact jS _
theorem ay4 (d:Option fq){id c:Int}(hc:c≠0)(l:List Row):(jC d l id c).filter (dI id)=(l.filter (dI id)).filter (Xf d):=by
 cases d with
 |none=>exact(filter_all fun _ _=>rfl).symm
 |some d=>exact ayW hc l
theorem ay5 (d:Option fq){id id' c:Int}(hne:id≠id')(l:List Row):(jC d l id c).filter (dI id')=l.filter (dI id'):=by
 cases d with
 |none=>rfl|some d=>exact ayX hne l
theorem ay6 {d:fq}{id c c' id':Int}(h:c'<c)(h0:0<=c')(r:Row):xq c' id' (lC d id c r)=xq c' id' r:=by
 unfold lC;cases hb:(dI id r&& !(dY d r.Entry))
 ·rfl
 ·have h1:dI id r=true:=by simp at hb;exact hb.1
  have h2:r.fH=0:=by simp[dI] at h1;exact h1.2
  simp[xq,ig,h2,h]
theorem ay7 (d:Option fq){id c c' id':Int}(h:c'<c)(h0:0<=c')(l:List Row):((jC d l id c).filter (xq c' id')).map (·.Entry)=(l.filter (xq c' id')).map (·.Entry):=by
 cases d with
 |none=>rfl|some d=>
  show ((l.map (lC d id c)).filter (xq c' id')).map (·.Entry)=_;induction l with
  |nil=>rfl|cons r l ih=>
   rw[fG];have:=ay6 (d:=d) (id:=id) (id':=id') h h0 r;cases hr:xq c' id' r
   ·rw[hr] at this
    rw[nT (by rw[this];simp),nT (by rw[hr];simp),ih]
   ·rw[hr] at this
    rw[oD this,oD hr,fG,fG,ih,akP]
def ac3 (a b:Entry):Prop:=a.To<=b.From\/b.To<=a.From
theorem ay8 {l k:List Row}(h:l.map (·.Entry)=k.map (·.Entry))(hk:k.Pairwise GD):l.Pairwise GD:=by have h1:(k.map (·.Entry)).Pairwise ac3:=(List.pairwise_map (f:=fun r:Row=>r.Entry) (R:=ac3)).2 hk;rw[<-h] at h1;exact(List.pairwise_map (f:=fun r:Row=>r.Entry) (R:=ac3)).1 h1
theorem ay9 {fit:List Int->List Attr->Int}{b:Book}{e:Event}{d:Option fq}{X N:List Row}{a' z':Int}(hI:Inv fit b)(hc:e.aB=b.aB+1)(hc2:e.aB<=1073741824)(hd:b.Day<=e.Day)(hd2:e.Day<=1048576)(hlen:b.Rows.length+X.length<=65536)(hX:∀r∈X,r.fH=0/\r.Entry.ID=e.ID/\r.Entry.dH=e.aB/\r.Entry.dn<=e.Day/\∀w,1<=w->w<=1073741824->Bl fit (jY w r.Entry))(hN:N.Perm ((gM b.Rows e.ID).filter (Xf d)++fD (bO b.Rows e.ID) X))(hp:Path a' N z'):
 Inv fit (tu b e d X)/\gM (tu b e d X).Rows e.ID=N/\∀id,e.ID≠id->gM (tu b e d X).Rows id=gM b.Rows id:=by
 have h0:=hI.com;have hv0:=KO b.Rows e.ID;have hv1:bO b.Rows e.ID<=(b.Rows.length:Int):=QF ah hI.ver;have hcn:e.aB≠0:=ah
 have Er:∀r∈fD (bO b.Rows e.ID) X,r.fH=0/\r.Entry.ID=e.ID/\r.Entry.dH=e.aB/\r.Entry.dn<=e.Day/\Bl fit r.Entry/\r.Entry.dw<=(b.Rows.length+X.length:Nat):=fun r hr=>by obtain⟨x,hx,w,w1,w2,rfl⟩:=acZ _ _ r hr;obtain⟨g1,g2,g3,g4,g5⟩:=hX x hx;exact⟨g1,g2,g3,g4,g5 w ah ah,by show w<=_;omega⟩
 have hnl:∀r∈fD (bO b.Rows e.ID) X,dI e.ID r=true:=fun r hr=>by obtain⟨g1,g2,_⟩:=Er r hr;simp[dI,ig,g1,g2]
 have aza:∀id,e.ID≠id->∀r∈fD (bO b.Rows e.ID) X,dI id r=false:=fun id h r hr=>ac1 h (hnl r hr);have L1:gM (tu b e d X).Rows e.ID=N:=by refine So.ayR hp.lt (hN.trans ?_);show List.Perm _ ((jC d b.Rows e.ID e.aB++fD (bO b.Rows e.ID) X).filter (dI e.ID));rw[qc,ay4 d hcn,filter_all hnl];exact((Xd b.Rows e.ID).filter _).append_right _
 have L2:∀id,e.ID≠id->gM (tu b e d X).Rows id=gM b.Rows id:=fun id h=>by show So.xg mU ((jC d b.Rows e.ID e.aB++fD (bO b.Rows e.ID) X).filter (dI id))=_;rw[qc,ay5 d h,filter_none (aza id h),lF];rfl
 have hmem:∀{P:Row->Prop},(∀r∈jC d b.Rows e.ID e.aB,P r)->(∀r∈fD (bO b.Rows e.ID) X,P r)->∀r∈(tu b e d X).Rows,P r:=fun h1 h2 r hr=>by
  rcases oW.1 (show r∈jC d b.Rows e.ID e.aB++fD (bO b.Rows e.ID) X from hr) with hr|hr
  ·exact h1 r hr
  ·exact h2 r hr
 have hl:(tu b e d X).Rows.length=b.Rows.length+X.length:=by show (jC d b.Rows e.ID e.aB++fD (bO b.Rows e.ID) X).length=_;rw[bE,GI,xk]
 have path:∀id,∃a z,Path a (gM (tu b e d X).Rows id) z:=fun id=>by
  by_cases c:e.ID=id
  ·subst c;rw[L1];exact⟨_,_,hp⟩
  ·rw[L2 id c];exact hI.path id
 have QK:∀r∈(tu b e d X).Rows,r.fH=0\/r.Entry.dH<r.fH/\r.fH<=e.aB:=hmem (fun r hr=>by
  obtain⟨x,hx,h1,h2⟩:=GH d _ _ _ r hr;rcases h2 with rfl| ⟨_,h2⟩
  ·rcases hI.QK r hx with h|h
   ·exact .inl h
   ·exact .inr ⟨h.1,ah⟩
  ·right
   rw[h1,h2];have:=hI.born x hx;omega) fun r hr=>.inl (Er r hr).1
 have born:∀r∈(tu b e d X).Rows,r.Entry.dH<=e.aB:=hmem (fun r hr=>by obtain⟨x,hx,h1,_⟩:=GH d _ _ _ r hr;rw[h1];have:=hI.born x hx;omega) fun r hr=>by rw[(Er r hr).2.2.1];exact Af _
 refine⟨⟨?_,hc2,?_,hd2,by rw[hl];exact hlen,?_,born,QK,?_,?_,path,?_⟩,L1,L2⟩
 ·show 0<=e.aB;omega
 ·show 0<=e.Day
  have:=hI.day;omega
 ·exact hmem (fun r hr=>by obtain⟨x,hx,h1,_⟩:=GH d _ _ _ r hr;rw[h1];exact hI.ent x hx) fun r hr=>(Er r hr).2.2.2.2.1
 ·rw[hl]
  exact hmem (fun r hr=>by obtain⟨x,hx,h1,_⟩:=GH d _ _ _ r hr;rw[h1];have:=hI.ver x hx;omega) fun r hr=>(Er r hr).2.2.2.2.2
 ·exact hmem (fun r hr=>by obtain⟨x,hx,h1,_⟩:=GH d _ _ _ r hr;rw[h1];have:=hI.filed x hx;show _<=e.Day;omega) fun r hr=>(Er r hr).2.2.2.1
 ·intro c id
  by_cases c1:c<e.aB
  ·by_cases c0:0<=c
   ·show ((jC d b.Rows e.ID e.aB++fD (bO b.Rows e.ID) X).filter (xq c id)).Pairwise GD
    rw[qc,filter_none (l:=fD _ _) fun r hr=>?_,lF]
    ·exact ay8 (ay7 d c1 c0 _) (hI.apart c id)
    ·have:=(Er r hr).2.2.1
     simp only[xq];rw[decide_eq_false ah];simp
   ·rw[filter_none fun r hr=>?_]
    ·exact .nil
    ·have h1:1<=r.Entry.dH:=hmem (P:=fun r=>1<=r.Entry.dH) (fun r hr=>by obtain⟨x,hx,h1,_⟩:=GH d _ _ _ r hr;rw[h1];exact(hI.ent x hx).bo) (fun r hr=>(Er r hr).2.2.2.2.1.bo) r hr
     simp only[xq];rw[decide_eq_false ah];simp
  ·have e1:(tu b e d X).Rows.filter (xq c id)=(tu b e d X).Rows.filter (dI id):=List.filter_congr fun r hr=>by
    have h1:=born r hr;have h2:=QK r hr;simp only[xq,dI];rw[decide_eq_true ah,Bool.and_true];rcases h2 with h2|h2
    ·simp[h2]
    ·rw[decide_eq_false ah,Bool.or_false]
   rw[e1];obtain⟨a,z,hpp⟩:=path id;have hpw:(gM (tu b e d X).Rows id).Pairwise GD:=hpp.strict.imp fun h=>.inl h;exact(List.Perm.pairwise_iff (fun h=>ay2 h) (Xd _ id)).1 hpw
end Sh
end
