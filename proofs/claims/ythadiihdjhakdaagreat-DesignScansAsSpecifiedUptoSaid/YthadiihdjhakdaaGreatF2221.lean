import Derived.IntWalk
import Derived.Test.YthadiihdjhakdaaGreatF2220
set_option linter.all false
open Go.IntKind (wrap)
section
open Go Go.Proofs aR
namespace Sh
theorem AP {α:Type}(l:List α)(i:Nat):aN l (i:Int)=l[i]? :=by
 unfold aN;by_cases h:i<l.length
 ·rw[if_pos ⟨ah,ah⟩];simp
 ·rw[if_neg ah];simp;omega
theorem eB {α:Type}{l:List α}{i:Nat}{x:α}(h:l[i]? =some x):aN l (i:Int)=some x:=by rw[AP,h]
theorem lW {α:Type}{l:List α}{i:Nat}{x:α}(h:l[i]? =some x):i<l.length:=by rw[qm] at h;exact h.1
theorem jY {α:Type}{l:List α}{i:Nat}{x:α}(h:l[i]? =some x):decide ((i:Int)< (l.length:Int))=true:=by have:=lW h;simp;omega
theorem sQ {α:Type}(l:List α):decide ((l.length:Int)< (l.length:Int))=false:=aD
theorem gJ {i:Nat}(h:i<2^62):wrap .i64 ((i:Int)+(1:Int))=((i+1:Nat):Int):=zk
def foldI {α β σ:Type}(step:α->Nat->σ->(σ->β)->β)(fin:σ->β):Nat->List α->σ->β
 |_,[],s=>fin s|i,x::l,s=>step x i s fun s=>foldI step fin (i+1) l s
theorem adl {α β σ:Type}{L:Nat->σ->Int->Option β}{l:List α}(step:α->Nat->σ->(σ->Option β)->Option β)(fin:σ->Option β)(hs:∀m (i:Nat) x s,l[i]? =some x->L (m+1) s (i:Int)=step x i s fun s=>L m s ((i+1:Nat):Int))(hf:∀m s,L (m+1) s (l.length:Int)=fin s)(hc:∀x (i:Nat) s k k',(∀s,k s=k' s)->step x i s k=step x i s k'):∀(k i m:Nat)(s:σ),i+k=l.length->k<m->L m s (i:Int)=foldI step fin i (l.drop i) s:=by
 intro k;induction k with
 |zero=>
  intro i m s hi hm;obtain⟨m,rfl⟩:∃m',m=m'+1:=⟨m-1,ah⟩;obtain rfl:i=l.length:=ah
  rw[hf,List.drop_length];rfl
 |succ k ih=>
  intro i m s hi hm;obtain⟨m,rfl⟩:∃m',m=m'+1:=⟨m-1,ah⟩;have hlt:i<l.length:=ah
  have hx:l[i]? =some l[i]:=jc hlt;rw[hs m i l[i] s hx,uJ hlt];exact hc _ _ _ _ _ fun s=>ih (i+1) m s ah ah
theorem Ci {α β:Type}{L:Nat->Int->Option β}{l:List α}(step:α->Nat->Option β->Option β)(fin:Option β)(hs:∀m (i:Nat) x,l[i]? =some x->L (m+1) (i:Int)=step x i (L m ((i+1:Nat):Int)))(hf:∀m,L (m+1) (l.length:Int)=fin){m:Nat}(hm:l.length<m):
 L m (0:Int)=foldI (σ:=Unit) (fun x i _ k=>step x i (k ())) (fun _=>fin) 0 l ():=by
 have:=adl (L:=fun m (_:Unit) i=>L m i) (l:=l) (fun x i _ k=>step x i (k ())) (fun _=>fin) (fun m i x _ h=>hs m i x h) (fun m _=>hf m) (fun x i s k k' h=>by rw[h]) l.length 0 m () ah hm;simpa using this
theorem Gp {α:Type}{γ:Type}(p:α->Bool)(f:Nat->γ)(z:γ):∀(l:List α)(i:Nat),foldI (σ:=Unit) (fun x i _ (k:Unit->Option γ)=>bif p x then some (f i) else k ()) (fun _=>some z) i l ()=some (match l.findIdx? p with|some j=>f (i+j)|none=>z)
 | [],i=>rfl|x::l,i=>by
  show (bif p x then some (f i) else foldI _ _ (i+1) l ())=_;rw[List.findIdx?_cons];cases hp:p x
  ·rw[cond_false,Gp p f z l (i+1)]
   simp only[dL,if_false];cases l.findIdx? p with
   |none=>rfl|some j=>simp only[Option.map_some];rw[Nat.add_right_comm,sZ]
  ·simp
theorem anA {α γ:Type}(p:α->Bool)(f z:γ):∀(l:List α)(i:Nat),foldI (σ:=Unit) (fun x _ _ (k:Unit->Option γ)=>bif p x then some f else k ()) (fun _=>some z) i l ()=some (bif l.any p then f else z)
 | [],i=>rfl|x::l,i=>by
  show (bif p x then some f else foldI _ _ (i+1) l ())=_;rw[List.any_cons];cases p x
  ·exact anA p f z l (i+1)
  ·rfl
theorem X4 {α:Type}(p:α->Bool):∀l:List α,(match l.findIdx? p with|some j=>l[j]? |none=>none)=l.find? p
 | []=>rfl|a::l=>by
  rw[List.findIdx?_cons,List.find?_cons];cases hp:p a
  ·have:=X4 p l
   simp only[dL,if_false];cases h:l.findIdx? p with
   |none=>rw[h] at this;simpa using this|some j=>rw[h] at this;simpa using this
  ·simp
theorem adn {α:Type}(p:α->Bool):∀(l:List α)(i:Nat)(s:Int),0<=s->s+l.length<2^62->
 foldI (fun x _ s (k:Int->Option Int)=>bif p x then k (wrap .i64 (s+(1:Int))) else k s) (fun s=>some s) i l s=some (s+(l.countP p:Nat))
 | [],i,s,_,_=>by simp[foldI]|x::l,i,s,h1,h2=>by
  simp only[List.length_cons] at h2;have e:wrap .i64 (s+(1:Int))=s+1:=zk
  show (bif p x then foldI _ _ (i+1) l (wrap .i64 (s+(1:Int))) else foldI _ _ (i+1) l s)=_;rw[List.countP_cons];cases hp:p x
  ·rw[cond_false,adn p l (i+1) s h1 ah];simp
  ·rw[cond_true,e,adn p l (i+1) (s+1) ah ah]
   simp;omega
theorem y7 {α β σ:Type}{L:Nat->σ->Int->Option β}{l:List α}(hs:∀m (i:Nat) x s,l[i]? =some x->(∀s,∃r,L m s ((i+1:Nat):Int)=some r)->∃r,L (m+1) s (i:Int)=some r)(hf:∀m s (i:Nat),l.length<=i->∃r,L (m+1) s (i:Int)=some r):
 ∀(k i m:Nat)(s:σ),l.length<=i+k->k<m->∃r,L m s (i:Int)=some r:=by
 intro k;induction k with
 |zero=>intro i m s hi hm;obtain⟨m,rfl⟩:∃m',m=m'+1:=⟨m-1,ah⟩;exact hf m s i ah
 |succ k ih=>
  intro i m s hi hm;obtain⟨m,rfl⟩:∃m',m=m'+1:=⟨m-1,ah⟩;by_cases h:l.length<=i
  ·exact hf m s i h
  ·exact hs m i _ s (jc ah) fun s=>ih (i+1) m s ah ah
theorem qK {α:Type}{l:List α}{i:Nat}(h:l.length<=i):decide ((i:Int)< (l.length:Int))=false:=eY
theorem aBB {α:Type}(l:List α):decide ((l.length:Int)> (0:Int))=decide (l≠[]):=by
 cases l with
 |nil=>simp|cons a l=>simp<;>omega
theorem anB {α:Type}(l:List α):((l.length:Int)==(0:Int))=decide (l=[]):=by
 cases l with
 |nil=>simp|cons a l=>simp<;>omega
theorem aBC (l:List UInt8):(l==[])=decide (l=[]):=by cases l<;>simp
theorem bs {α β:Type}{o:Option α}{a:α}{f:α->Option β}{r:Option β}(h:o=some a)(k:f a=r):o.bind f=r:=zl
theorem Ee {a k:Nat}(h:a<2^30)(hk:k<=2^12):dB a k=true:=by
 unfold dB;have h1:a*k<=2^30*2^12:=Nat.mul_le_mul (Nat.le_of_lt h) hk;have e:(2:Nat)^30*2^12<=2^47:=aX
 rw[aT,decide_eq_true_iff,decide_eq_true_iff];exact⟨ah,ah⟩
theorem Gq {α:Type}{l:List α}{i:Nat}(h:i<l.length):decide (0<=(i:Int)/\(i:Int)< (l.length:Int))=true:=decide_eq_true ⟨ah,ah⟩
theorem anC {α:Type}{c:Bool}{x d:α}:jS c (some x) d=some (bif c then x else d):=by cases c<;>rfl
theorem ado {i:Nat}(h:0<i)(hb:i<2^62):wrap .i64 ((i:Int)-(1:Int))=((i-1:Nat):Int):=zk
theorem Cj {α:Type}{l:List α}{i:Nat}(h:i<l.length):∃x,aN l (i:Int)=some x/\x∈l:=⟨l[i],by rw[AP,jc h],jQ h⟩
theorem aBD {a b:Nat}(h:a+b<2^62):wrap .i64 ((((a:Nat):Int))+(((b:Nat):Int)))=((a+b:Nat):Int):=zk
theorem X5 {α:Type}{a k:Nat}{o:Option α}(h:a<2^30)(hk:k<=2^12:=by omega):(bif dB a k then o else none)=o:=by rw[Ee h hk];rfl
theorem adp {τ β:Type}{L:Nat->τ->Option β}(Inv:τ->Prop)(mu:τ->Nat)(Post:β->Prop)(h:∀m p,Inv p->(∀p',Inv p'->mu p'<mu p->∃r,L m p'=some r/\Post r)->∃r,L (m+1) p=some r/\Post r):∀m p,Inv p->mu p<m->∃r,L m p=some r/\Post r
 |0,p,_,hm=>ah|m+1,p,hp,hm=>h m p hp fun p' hp' hlt=>adp Inv mu Post h m p' hp' ah
theorem kr {α:Type}{P:α->Prop}{c:Bool}{a b:Option α}(ha:c=true->∃r,a=some r/\P r)(hb:c=false->∃r,b=some r/\P r):∃r,(bif c then a else b)=some r/\P r:=by
 cases c
 ·exact hb rfl
 ·exact ha rfl
theorem eX {α β:Type}{P:β->Prop}{o:Option α}{f:α->Option β}(h:∃x,o=some x/\∃r,f x=some r/\P r):∃r,o.bind f=some r/\P r:=by obtain⟨x,hx,h⟩:=h;rw[hx];exact h
theorem jC {α:Type}{P:α->Prop}{a:α}(h:P a):∃r,some a=some r/\P r:=⟨a,rfl,h⟩
theorem aBE {α:Type}{l:List α}{i:Int}(h1:0<=i)(h2:decide (i< (l.length:Int))=true):∃x,aN l i=some x:=by obtain⟨j,rfl⟩:=Int.eq_ofNat_of_zero_le h1;rw[AP];exact⟨l[j]' Uo,jc _⟩
theorem aBF {x:Int}(h:0<=x):wrap .u64 (Int.tdiv x 128)=wrap .u64 (x/128):=by rw[Int.tdiv_eq_ediv_of_nonneg h]
theorem kK {α:Type}{c:Bool}{a b r:Option α}(h:c=true)(k:a=r):(bif c then a else b)=r:=zl
theorem kX {α:Type}{c:Bool}{a b r:Option α}(h:c=false)(k:b=r):(bif c then a else b)=r:=zl
theorem iA {α:Type}{P:α->Prop}{c:Bool}{o:Option α}(h:c=true)(k:∃r,o=some r/\P r):∃r,(bif c then o else none)=some r/\P r:=zl
theorem aBG (x:Int):0<=wrap .u64 x:=by rw[IntKind.wrap_u64];exact Int.emod_nonneg _ aX
theorem y8 {a k:Nat}(h:a<2^30)(hk:k<=2^12):dB a k=true:=Ee h hk
def findD (s:aJ)(x:List UInt8):Int:=match s.Defs.findIdx? (fun d=>d.Name==x) with
 |some i=>(i:Int)|none=>-1
theorem anD {n:Nat}{s:aJ}{x:List UInt8}(h:s.Defs.length<n)(hb:s.Defs.length<2^62):FX n (s,x)=some (findD s x):=by
 have:=Ci (L:=fun m i=>Sv n s x m i) (l:=s.Defs) (fun d i r=>bif d.Name==x then some (.inr (i:Int)) else r) (some (.inl ()))
  (fun m i d hd=>by have hlt:=lW hd;rw[amO,jY hd,eB hd,gJ ah];rfl)
  (fun m=>by rw[amO,sQ];rfl) h
 rw[azV,this,Gp (fun d:Def=>d.Name==x) (fun i=>(Sum.inr (i:Int):PUnit⊕Int)) (.inl ())];unfold findD;cases s.Defs.findIdx? (fun d=>d.Name==x) with
 |none=>rfl|some j=>simp;rfl
theorem anE {n:Nat}{l:List (List UInt8)}{x:List UInt8}(h:l.length<n)(hb:l.length<2^62):ZD n (l,x)=some (l.any (· ==x)):=by
 have:=Ci (L:=fun m i=>Sq n l x m i) (l:=l) (fun d i r=>bif d==x then some (.inr true) else r) (some (.inl ()))
  (fun m i d hd=>by have hlt:=lW hd;rw[amy,jY hd,eB hd,gJ ah];rfl)
  (fun m=>by rw[amy,sQ];rfl) h
 rw[azL,this,Gp (fun d:List UInt8=>d==x) (fun i=>(Sum.inr true:PUnit⊕Bool)) (.inl ())];cases hf:l.findIdx? (fun d=>d==x) with
 |none=>
  rw[List.findIdx?_eq_none_iff] at hf;have:l.any (· ==x)=false:=by rw[List.any_eq_false];intro y hy;simpa using hf y hy
  rw[this];rfl
 |some j=>
  obtain⟨hj,h2,_⟩:=List.findIdx?_eq_some_iff_getElem.1 hf;have:l.any (· ==x)=true:=by rw[List.any_eq_true];exact⟨l[j],jQ hj,h2⟩
  rw[this];rfl
theorem Mr {α:Type}{c:Bool}{o:Option α}{d:α}(h:c=true->∃x,o=some x):∃x,jS c o d=some x:=by
 cases c
 ·exact⟨d,rfl⟩
 ·exact h rfl
theorem aBH {n:Nat}{e:Entry}(h:e.bU.length<n)(hb:e.bU.length<2^62):∃b,FU n e=some b:=by
 obtain⟨r,hr,_⟩:=adp (L:=fun m i=>D9 n e m i) (fun i=>0<=i/\i<=e.bU.length) (fun i=>(e.bU.length-i).toNat) (fun _=>True)
  (fun m i hi ih=>by rw[ac8];refine kr (fun hc=>?_) (fun _=>jC trivial);have hc':decide (i< ((e.bU.length:Nat):Int))=true:=(by revert hc;cases decide (i< ((e.bU.length:Nat):Int))<;>simp);obtain⟨x,hx⟩:=aBE hi.1 hc';refine eX ⟨x,hx,?_⟩;rw[hx];obtain⟨y,hy⟩:=Mr (c:= !(decide ((((x.Name.length:Nat):Int))> (300:Int)))) (o:=some x) (d:=(⟨[],(0:Int),(0:Int),[]⟩:Attr)) (fun _=>⟨x,rfl⟩);refine eX ⟨y,hy,?_⟩;refine kr (fun _=>jC trivial) (fun _=>?_);have h3:=of_decide_eq_true hc';rw[IntKind.wrap_i64];have e2:(i+1+9223372036854775808)% 18446744073709551616-9223372036854775808=i+1:=ah;rw[e2];exact ih _ ⟨ah,ah⟩ ah) n (0:Int) ⟨ah,ah⟩ xJ
 rw[amG,hr];cases r with
 |inl q=>exact⟨_,rfl⟩|inr q=>exact⟨_,rfl⟩
def oz (s:aJ)(n:Nat):Prop:=s.Defs.length<n/\s.Defs.length<2^62/\∀d∈s.Defs,d.Name.length<n/\d.Name.length<2^62/\d.Words.length<n/\d.Words.length<2^62/\∀w∈d.Words,w.length<n/\w.length<2^62
theorem anF {n:Nat}{x:List UInt8}(h:x.length<n)(hb:x.length<2^62)(hn:6<n):∃b:Bool,FT n x=some b:=by
 obtain⟨r,hr⟩:=y7 (L:=fun m (_:Unit) i=>D5 n x m i) (l:=x)
  (fun m i c _ hc ih=>by
    have hlt:=lW hc;show∃r,D5 n x (m+1) (i:Int)=some r;rw[amA,jY hc,eB hc,gJ ah,cond_true,Option.bind_some];cases (bif !(bif decide ((c.toNat:Int)>=(97:Int)) then decide ((c.toNat:Int)<=(122:Int)) else false) then bif (i:Int)==(0:Int) then true else !(bif bif decide ((c.toNat:Int)>=(48:Int)) then decide ((c.toNat:Int)<=(57:Int)) else false then true else (c.toNat:Int)==(95:Int)) else false)
    ·exact ih ()
    ·exact⟨_,rfl⟩)
  (fun m _ i hi=>by show∃r,D5 n x (m+1) (i:Int)=some r;rw[amA,qK hi];exact⟨_,rfl⟩) x.length 0 n () ah h
 have hr':D5 n x n (0:Int)=some r:=hr;rw[azM,hr'];cases r with
 |inl q=>obtain⟨b,hb'⟩:=Mr (c:=bif decide ((x.length:Int)>=(1:Int)) then decide ((x.length:Int)<=(40:Int)) else false) (o:=ZD n (([[(97:UInt8),(108:UInt8),(108:UInt8)],[(97:UInt8),(110:UInt8),(100:UInt8)],[(104:UInt8),(97:UInt8),(115:UInt8)],[(105:UInt8),(110:UInt8)],[(110:UInt8),(111:UInt8),(116:UInt8)],[(111:UInt8),(114:UInt8)]],x))) (d:=false) (fun _=>⟨_,anE (show 6<n from hn) (show 6<2^62 by omega)⟩);rw[Option.bind_some];show∃b,Option.bind (jS _ _ _) _=some b;rw[hb'];exact⟨_,rfl⟩
 |inr q=>exact⟨q,rfl⟩
theorem aBI {n:Nat}{l:List (List UInt8)}(h:l.length<n)(hb:l.length<2^62)(hw:∀w∈l,w.length<n/\w.length<2^62)(hn:6<n):∃e:Int,JC n l=some e:=by
 rw[azN];cases (bif decide ((l.length:Int)< (1:Int)) then true else decide ((l.length:Int)> (50:Int)))
 ·obtain⟨r,hr⟩:=y7 (L:=fun m (_:Unit) i=>D6 n l m i) (l:=l)
   (fun m i c _ hc ih=>by
     have hlt:=lW hc;show∃r,D6 n l (m+1) (i:Int)=some r;obtain⟨b,hb'⟩:=anF (hw c (pF hc)).1 (hw c (pF hc)).2 hn;rw[amB,jY hc,eB hc,gJ ah,cond_true,Option.bind_some,hb'];cases b
     ·exact⟨_,rfl⟩
     ·exact ih ())
   (fun m _ i hi=>by show∃r,D6 n l (m+1) (i:Int)=some r;rw[amB,qK hi];exact⟨_,rfl⟩) l.length 0 n () ah h
  have hr':D6 n l n (0:Int)=some r:=hr;rw[cond_false,hr',Option.bind_some];cases r with
  |inr q=>exact⟨q,rfl⟩|inl q=>
   obtain⟨r,hr2⟩:=y7 (L:=fun m (_:Unit) i=>D7 n l m (i+1)) (l:=l.tail)
    (fun m i c _ hc ih=>by
      have hc':l[i+1]? =some c:=(by rw[List.getElem?_tail] at hc;exact hc);have hlt:=lW hc';show∃r,D7 n l (m+1) ((i:Int)+1)=some r;have ei:(i:Int)+1=((i+1:Nat):Int):=ah;have e0:wrap .i64 (((i+1:Nat):Int)-(1:Int))=(i:Int):=zk;have hi0:l[i]? =some l[i]:=jc ah;rw[ei,amC,jY hc',eB hc',gJ ah,e0,eB hi0,cond_true,Option.bind_some,Option.bind_some];cases (Go.Op.bytesLess c l[i]||c==l[i])
      ·have:=ih ()
       have e1:(((i+1:Nat):Int))+1=((i+1+1:Nat):Int):=ah;simp only[e1] at this;exact this
      ·exact⟨_,rfl⟩)
    (fun m _ i hi=>by show∃r,D7 n l (m+1) ((i:Int)+1)=some r;have ei:(i:Int)+1=((i+1:Nat):Int):=ah;rw[ei,amC,qK (by rw[List.length_tail] at hi;omega)];exact⟨_,rfl⟩) l.length 0 n () (by rw[List.length_tail];omega) h
   have hr2':D7 n l n (1:Int)=some r:=hr2;rw[Sum.elim_inl,hr2',Option.bind_some];cases r with
   |inl q=>exact⟨0,rfl⟩|inr q=>exact⟨q,rfl⟩
 ·exact⟨_,rfl⟩
theorem ku {α:Type}{c:Bool}{a b:Option α}(ha:∃r,a=some r)(hb:∃r,b=some r):∃r,(bif c then a else b)=some r:=by
 cases c
 ·exact hb
 ·exact ha
theorem aBJ {n:Nat}{d:Def}{x:List UInt8}(h:d.Name.length<n/\d.Name.length<2^62/\d.Words.length<n/\d.Words.length<2^62/\∀w∈d.Words,w.length<n/\w.length<2^62)(hn:6<n):∃e:Int,Vc n (d,x)=some e:=by obtain⟨b,hb⟩:=anF h.1 h.2.1 hn;obtain⟨e,he⟩:=aBI h.2.2.1 h.2.2.2.1 h.2.2.2.2 hn;rw[azO,hb];show∃e:Int,(bif !b then some (5:Int) else _)=some e;refine ku ⟨_,rfl⟩ (ku ⟨_,rfl⟩ (ku (ku ⟨_,rfl⟩ (ku ⟨_,rfl⟩ ⟨_,rfl⟩)) (ku (ku ⟨_,rfl⟩ ?_) ⟨_,rfl⟩)));rw[he];exact⟨e,rfl⟩
theorem anG {n:Nat}{s:aJ}(h:oz s n)(hn:6<n):∃e:Int,BQ n s=some e:=by
 obtain⟨h1,h2,h3⟩:=h;obtain⟨b,hb⟩:=Mr (c:= !(bif decide (s.eH< (1:Int)) then true else decide (s.eH> (32:Int)))) (o:=Wf n s.fU) (d:=false) (fun _=>by rw[amx];exact⟨_,rfl⟩);obtain⟨r,hr⟩:=y7 (L:=fun m (x:List UInt8) i=>D8 n s m (x,i)) (l:=s.Defs)
  (fun m i d x hd ih=>by have hlt:=lW hd;show∃r,D8 n s (m+1) (x,(i:Int))=some r;obtain⟨e,he⟩:=aBJ (x:=x) (h3 d (pF hd)) hn;rw[amD,jY hd,eB hd,gJ ah,cond_true,Option.bind_some,he];show∃r,(bif e !=(0:Int) then _ else _)=some r;exact ku ⟨_,rfl⟩ (ih _))
  (fun m x i hi=>by show∃r,D8 n s (m+1) (x,(i:Int))=some r;rw[amD,qK hi];exact⟨_,rfl⟩) s.Defs.length 0 n [] ah h1
 have hr':D8 n s n ([],(0:Int))=some r:=hr;rw[amE];show∃e:Int,Option.bind (jS _ _ _) _=some e;rw[hb];show∃e:Int,(bif _ then some (1:Int) else _)=some e;refine ku ⟨_,rfl⟩ (ku ⟨_,rfl⟩ ?_);rw[hr',Option.bind_some];cases r with
 |inl q=>exact⟨0,rfl⟩|inr q=>exact⟨q,rfl⟩
theorem aBK {n:Nat}{s:aJ}{k:Int}(h:oz s n):∃b:Bool,Jw n (s,k)=some b:=by
 obtain⟨h1,h2,h3⟩:=h;obtain⟨r,hr⟩:=y7 (L:=fun m (_:Unit) i=>DZ n s k m i) (l:=s.Defs)
  (fun m i d _ hd ih=>by
    have hlt:=lW hd;obtain⟨w1,w2,w3,w4,w5⟩:=h3 d (pF hd);show∃r,DZ n s k (m+1) (i:Int)=some r;obtain⟨r,hr⟩:=y7 (L:=fun m (_:Unit) j=>DY n s k (i:Int) d m j) (l:=d.Words)
     (fun m j w _ hw ih=>by have hlt:=lW hw;show∃r,DY n s k (i:Int) d (m+1) (j:Int)=some r;rw[amv,jY hw,eB hw,gJ ah,cond_true,Option.bind_some];exact ku ⟨_,rfl⟩ (ih ()))
     (fun m _ j hj=>by show∃r,DY n s k (i:Int) d (m+1) (j:Int)=some r;rw[amv,qK hj];exact⟨_,rfl⟩) d.Words.length 0 n () ah w3
    have hr':DY n s k (i:Int) d n (0:Int)=some r:=hr;rw[amw,jY hd,eB hd,gJ ah,Option.bind_some,hr'];refine ku (ku ⟨_,rfl⟩ ?_) ⟨_,rfl⟩;cases r with
    |inl q=>exact ih ()|inr q=>exact⟨_,rfl⟩)
  (fun m _ i hi=>by show∃r,DZ n s k (m+1) (i:Int)=some r;rw[amw,qK hi];exact⟨_,rfl⟩) s.Defs.length 0 n () ah h1
 have hr':DZ n s k n (0:Int)=some r:=hr;rw[azK,hr',Option.bind_some];cases r with
 |inl q=>exact⟨_,rfl⟩|inr q=>exact⟨q,rfl⟩
def anH (l:List Event)(n:Nat):Prop:=l.length<n/\l.length<2^62/\∀x∈l,x.bU.length<n/\x.bU.length<2^62
theorem aBL {n:Nat}{l:List Event}{k:Int}(h:anH l n):∃b:Bool,FV n (l,k)=some b:=by
 obtain⟨h1,h2,h3⟩:=h;obtain⟨r,hr⟩:=y7 (L:=fun m (_:Unit) i=>yX n l k m i) (l:=l)
  (fun m i x _ hx ih=>by have hlt:=lW hx;obtain⟨a1,a2⟩:=h3 x (pF hx);show∃r,yX n l k (m+1) (i:Int)=some r;rw[X0,jY hx,eB hx,gJ ah];refine ku ?_ ⟨_,rfl⟩;rw[Option.bind_some,Option.bind_some];obtain⟨b,hb⟩:=aBH (n:=n) (e:=⟨0,0,0,0,0,0,0,x.Vec,x.bU⟩) a1 a2;rw[hb];show∃r,(bif !b then _ else _)=some r;exact ku ⟨_,rfl⟩ (ih ()))
  (fun m _ i hi=>by show∃r,yX n l k (m+1) (i:Int)=some r;rw[X0,qK hi];exact⟨_,rfl⟩) l.length 0 n () ah h1
 have hr':yX n l k n (0:Int)=some r:=hr;rw[amI,hr',Option.bind_some];cases r with
 |inl q=>exact⟨_,rfl⟩|inr q=>exact⟨q,rfl⟩
theorem aBM {n:Nat}{b:Book}{d:Int}(h:b.Rows.length<n)(hb:b.Rows.length<2^62):∃r:Bool,JQ n (b,d)=some r:=by
 have:=Ci (L:=fun m i=>Sr n b d m i) (l:=b.Rows) (fun x i r=>bif x.Entry.ID==d then some (.inr true) else r) (some (.inl ()))
  (fun m i x hx=>by have hlt:=lW hx;rw[amM,jY hx,eB hx,gJ ah];rfl)
  (fun m=>by rw[amM,sQ];rfl) h
 rw[azU,this,Gp (fun x:Row=>x.Entry.ID==d) (fun i=>(Sum.inr true:PUnit⊕Bool)) (.inl ())];cases b.Rows.findIdx? (fun x:Row=>x.Entry.ID==d)<;>exact⟨_,rfl⟩
theorem aBN {n:Nat}{l:List Int}(h:l.length<n)(hb:l.length<2^62):∃r:Bool,DN n l=some r:=by
 obtain⟨r,hr⟩:=y7 (L:=fun m (_:Unit) i=>AO n l m i) (l:=l)
  (fun m i x _ hx ih=>by have hlt:=lW hx;show∃r,AO n l (m+1) (i:Int)=some r;rw[X3,jY hx,eB hx,gJ ah];obtain⟨z,hz⟩:=Mr (c:= !(decide (x< (-1000:Int)))) (o:=some x) (d:=(0:Int)) (fun _=>⟨_,rfl⟩);simp only[cond_true,Option.bind_some,hz];exact ku ⟨_,rfl⟩ (ih ()))
  (fun m _ i hi=>by show∃r,AO n l (m+1) (i:Int)=some r;rw[X3,qK hi];exact⟨_,rfl⟩) l.length 0 n () ah ah
 have hr':AO n l n (0:Int)=some r:=hr;rw[amN,hr',Option.bind_some];cases r<;>exact⟨_,rfl⟩
theorem aBO {n:Nat}{d:Def}{a:Attr}(h:d.Words.length<n)(hb:d.Words.length<2^62):∃r:Int,Up n (d,a)=some r:=by rw[azW,anE h hb];exact ku ⟨_,rfl⟩ (ku (ku ⟨_,rfl⟩ (ku ⟨_,rfl⟩ ⟨_,rfl⟩)) (ku ⟨_,rfl⟩ (ku ⟨_,rfl⟩ ⟨_,rfl⟩)))
theorem aBP {s:aJ}{x:List UInt8}(h:¬findD s x<0):∃(i:Nat) (d:Def),findD s x=(i:Int)/\s.Defs[i]? =some d:=by
 unfold findD at h⊢;cases hf:s.Defs.findIdx? (fun d=>d.Name==x) with
 |none=>rw[hf] at h;exact absurd aX h|some i=>obtain⟨hi,_⟩:=List.findIdx?_eq_some_iff_getElem.mp hf;exact⟨i,s.Defs[i],rfl,jc hi⟩
theorem anI {n:Nat}{s:aJ}{l:List Attr}(hs:oz s n)(h:l.length<n)(hb:l.length<2^62):∃r:Int,JX n (s,l)=some r:=by
 obtain⟨s1,s2,s3⟩:=hs;obtain⟨r,hr⟩:=y7 (L:=fun m (_:Unit) i=>yY n s l m i) (l:=l)
  (fun m i x _ hx ih=>by
    have hlt:=lW hx;have ih':∃r,yY n s l m ((i+1:Nat):Int)=some r:=ih ();show∃r,yY n s l (m+1) (i:Int)=some r;rw[amP,jY hx,eB hx,gJ ah];simp only[cond_true,Option.bind_some];rw[anD s1 s2];show∃r,(bif decide (findD s x.Name<0) then some (Sum.inr (5:Int)) else _)=some r;by_cases hf:findD s x.Name<0
    ·rw[decide_eq_true hf];exact⟨_,rfl⟩
    obtain⟨j,d,hj,hd⟩:=aBP hf;rw[decide_eq_false hf,hj,eB hd];have hv:∃v:Int,Up n (d,x)=some v:=(by obtain⟨_,_,w1,w2,_⟩:=s3 d (pF hd);exact aBO w1 w2);obtain⟨v,hv⟩:=hv;have tail:∃r,((Up n (d,x)).bind fun (dh:Int)=>bif dh !=(0:Int) then some (Sum.inr dh) else yY n s l m ((i+1:Nat):Int))=some r:=(by rw[hv];exact ku ⟨_,rfl⟩ ih');show∃r,(bif decide ((i:Int)>0) then _ else _)=some r;cases i with
    |zero=>exact tail|succ k=>have hk:k<l.length:=ah;have hy:l[k]? =some l[k]:=jc hk;have hw:wrap .i64 (((k+1:Nat):Int)-(1:Int))=((k:Nat):Int):=(by rw[show (((k+1:Nat):Int)-(1:Int))=((k:Nat):Int) by omega];rw[IntKind.wrap_i64];omega);rw[decide_eq_true (show ((k+1:Nat):Int)>0 by omega),hw,eB hy];show∃r,(bif _ then some (Sum.inr (6:Int)) else _)=some r;exact ku ⟨_,rfl⟩ tail)
  (fun m _ i hi=>by show∃r,yY n s l (m+1) (i:Int)=some r;rw[amP,qK hi];exact⟨_,rfl⟩) l.length 0 n () ah ah
 have hr':yY n s l n (0:Int)=some r:=hr;rw[azX,hr',Option.bind_some];cases r<;>exact⟨_,rfl⟩
def Ms (v:List Int)(a:List Attr):Prop:=v.length<=40/\a.length<=20/\∀x∈a,x.Name.length<=300/\x.S.length<=300
def Tv (e:Entry)(n:Nat):Prop:=e.Vec.length<n/\e.Vec.length<2^62/\e.bU.length<n/\e.bU.length<2^62/\Ms e.Vec e.bU
theorem anJ {n:Nat}{s:aJ}{e:Entry}(hs:oz s n)(h:Tv e n):∃r:Int,JT n (s,e)=some r:=by obtain⟨h1,h2,h3,h4,_⟩:=h;obtain⟨b,hb⟩:=aBN h1 h2;obtain⟨r,hr⟩:=anI hs h3 h4;rw[amQ,hb,hr];exact ku ⟨_,rfl⟩ (ku ⟨_,rfl⟩ (ku ⟨_,rfl⟩ ⟨_,rfl⟩))
theorem aBQ {n:Nat}{b:Book}{d:Int}(h:b.Rows.length<n)(hb:b.Rows.length<2^62):∃r:Int,J2 n (b,d)=some r:=by
 obtain⟨r,hr⟩:=y7 (L:=fun m (s:Int) i=>Cc n b d m (s,i)) (l:=b.Rows)
  (fun m i x s hx ih=>by have hlt:=lW hx;show∃r,Cc n b d (m+1) (s,(i:Int))=some r;rw[amR,jY hx,eB hx,gJ ah];simp only[cond_true,Option.bind_some];exact ku (ih _) (ih _))
  (fun m s i hi=>by show∃r,Cc n b d (m+1) (s,(i:Int))=some r;rw[amR,qK hi];exact⟨_,rfl⟩) b.Rows.length 0 n 0 ah ah
 have hr':Cc n b d n (0,0)=some r:=hr;rw[azY,hr'];exact⟨_,rfl⟩
theorem anK {n:Nat}{e:Entry}(hb:e.bU.length<2^62):∀(m i:Nat),D9 n e m (i:Int)=some (.inl ())->∀j (hj:j<e.bU.length),i<=j->j<=20->e.bU[j].Name.length<=300/\e.bU[j].S.length<=300
 |0,i,h,_,_,_,_=>by rw[amF] at h;cases h|m+1,i,h,j,hj,hij,h20=>by
  rw[ac8] at h;have hi:i<e.bU.length:=ah
  have e1:decide ((i:Int)< ((e.bU.length:Nat):Int))=true:=decide_eq_true ah;have e2:decide ((i:Int)<=(20:Int))=true:=decide_eq_true ah;have hx:e.bU[i]? =some e.bU[i]:=jc hi;rw[e1,e2,eB hx,gJ ah] at h;simp only[cond_true,Option.bind_some] at h;cases hn:decide (((e.bU[i].Name.length:Nat):Int)> (300:Int)) with
  |true=>rw[hn] at h;simp only[Bool.not_true,jS,cond_false,cond_true,Option.bind_some] at h;cases h|false=>
   rw[hn] at h;simp only[Bool.not_false,jS,cond_true,cond_false,Option.bind_some] at h;cases hs:decide (((e.bU[i].S.length:Nat):Int)> (300:Int)) with
   |true=>rw[hs] at h;cases h|false=>
    rw[hs] at h;have h1:=of_decide_eq_false hn;have h2:=of_decide_eq_false hs;by_cases hji:j=i
    ·subst hji;exact⟨ah,ah⟩
    ·exact anK hb m (i+1) h j hj ah h20
theorem aBR {n:Nat}{e:Entry}(hb:e.bU.length<2^62)(h:FU n e=some true):Ms e.Vec e.bU:=by
 rw[amG] at h;obtain⟨r,hr,h⟩:=iR.1 h;cases r with
 |inr b=>
  have:∀(m i:Nat) b,i<=2^62->D9 n e m (i:Int)=some (.inr b)->b=false:=by
   intro m;induction m with
   |zero=>intro i b _ h;rw[amF] at h;cases h|succ m ih=>
    intro i b hi h;rw[ac8] at h;cases hc:(bif decide ((i:Int)< ((e.bU.length:Nat):Int)) then decide ((i:Int)<=(20:Int)) else false) with
    |false=>rw[hc] at h;cases h|true=>
     rw[hc] at h;have hlt:i<e.bU.length:=by
      cases hd:decide ((i:Int)< ((e.bU.length:Nat):Int)) with
      |false=>rw[hd] at hc;cases hc|true=>have:=of_decide_eq_true hd;omega
     rw[cond_true,gJ ah] at h;obtain⟨x,_,h⟩:=iR.1 h;obtain⟨y,_,h⟩:=iR.1 h;revert h;cases (bif decide (((x.Name.length:Nat):Int)> (300:Int)) then true else decide (((y.S.length:Nat):Int)> (300:Int))) with
     |true=>intro h;cases h;rfl|false=>intro h;exact ih (i+1) b ah h
  have hb':=this n 0 b ah hr;subst hb';cases h
 |inl u=>
  have h':some (bif decide (((e.Vec.length:Nat):Int)<=(40:Int)) then decide (((e.bU.length:Nat):Int)<=(20:Int)) else false)=some true:=h;cases hv:decide (((e.Vec.length:Nat):Int)<=(40:Int)) with
  |false=>rw[hv] at h';cases h'|true=>rw[hv] at h';have h1:=of_decide_eq_true hv;have h2:=of_decide_eq_true (jP h');refine⟨ah,ah,fun x hx=>?_⟩;obtain⟨j,hj,rfl⟩:=GJ.1 hx;exact anK hb n 0 hr j hj (nI _) ah
theorem anL {n:Nat}{l:List Event}{k:Int}(hb:l.length<2^62)(ha:∀e∈l,e.bU.length<2^62):∀(m i:Nat),yX n l k m (i:Int)=some (.inl ())->∀j (hj:j<l.length),i<=j->(j:Int)<=k->Ms l[j].Vec l[j].bU
 |0,i,h,_,_,_,_=>by rw[amH] at h;cases h|m+1,i,h,j,hj,hij,hk=>by
  rw[X0] at h;have hi:i<l.length:=ah
  have e1:decide ((i:Int)< (l.length:Int))=true:=decide_eq_true ah;have e2:decide ((i:Int)<=k)=true:=decide_eq_true ah;have hx:l[i]? =some l[i]:=jc hi;rw[e1,e2,eB hx,gJ ah] at h;simp only[cond_true,Option.bind_some] at h;obtain⟨b,hf,h⟩:=iR.1 h;cases b with
  |false=>cases h|true=>
   by_cases hji:j=i
   ·subst hji;exact aBR (e:=⟨0,0,0,0,0,0,0,l[j].Vec,l[j].bU⟩) (ha _ (jQ _)) hf
   ·exact anL hb ha m (i+1) h j hj ah hk
theorem aBS {n:Nat}{l:List Event}{k:Int}(hb:l.length<2^62)(ha:∀e∈l,e.bU.length<2^62)(h:FV n (l,k)=some true):∀e∈l,Ms e.Vec e.bU:=by
 rw[amI] at h;obtain⟨r,hr,h⟩:=iR.1 h;cases r with
 |inr b=>
  have:∀(m i:Nat) b,i<=2^62->yX n l k m (i:Int)=some (.inr b)->b=false:=by
   intro m;induction m with
   |zero=>intro i b _ h;rw[amH] at h;cases h|succ m ih=>
    intro i b hi h;rw[X0] at h;cases hc:(bif decide ((i:Int)< (l.length:Int)) then decide ((i:Int)<=k) else false) with
    |false=>rw[hc] at h;cases h|true=>
     rw[hc] at h;have hlt:i<l.length:=by
      cases hd:decide ((i:Int)< (l.length:Int)) with
      |false=>rw[hd] at hc;cases hc|true=>have:=of_decide_eq_true hd;omega
     rw[cond_true,gJ ah] at h;obtain⟨x,_,h⟩:=iR.1 h;obtain⟨y,_,h⟩:=iR.1 h;obtain⟨f,_,h⟩:=iR.1 h;revert h;cases f with
     |false=>intro h;cases h;rfl|true=>intro h;exact ih (i+1) b ah h
  have hb':=this n 0 b ah hr;subst hb';cases h
 |inl u=>have h':some (decide ((l.length:Int)<=k))=some true:=h;have h2:=of_decide_eq_true (jP h');intro x hx;obtain⟨j,hj,rfl⟩:=GJ.1 hx;exact anL hb ha n 0 hr j hj (nI _) ah
theorem aBT {n:Nat}{z:Int}(hz0:0<=z)(hz1:z<2^64)(hn:20<n):∃r,Gn n n (z,[])=some r/\r.2.length<=9:=by
 refine adp (L:=fun m p=>Gn n m p) (fun p=>0<=p.1/\p.2.length<=9/\p.1<2^(64-7*p.2.length)) (fun p=>10-p.2.length) (fun r=>r.2.length<=9) ?_ n _ ⟨hz0,nI _,hz1⟩ (by show 10-0<n;omega);rintro m ⟨x2,x3⟩ ⟨ha,hb,hc⟩ ih;dsimp only at ha hb hc ih⊢;rw[aBr];refine kr (fun hd=>?_) (fun _=>jC hb);have hd':=of_decide_eq_true hd;have hlt:x3.length<9:=by
  by_cases h:x3.length<9
  ·exact h
  ·have e:x3.length=9:=ah
   rw[e] at hc;have e2:(2:Int)^(64-7*9)=2:=aX
   rw[e2] at hc;exfalso;omega
 have aBU:(2:Int)^(64-7*x3.length)<=2^64:=by
  have e:(2:Int)^(64-7*x3.length)=((2^(64-7*x3.length):Nat):Int):=by rw[Int.natCast_pow];rfl
  have e2:(2:Int)^64=((2^64:Nat):Int):=rfl;rw[e,e2];exact Int.ofNat_le.2 (Nat.pow_le_pow_right aX ah)
 have aEU:x2<2^64:=Int.lt_of_lt_of_le hc aBU;have hw:wrap .u64 (Int.tdiv x2 128)=x2/128:=by rw[aBF ha,IntKind.wrap_u64];omega
 rw[hw];refine iA aX (iA (y8 En aX) (iA aX ?_));refine ih _ ⟨Int.ediv_nonneg ha aX,?_,?_⟩ (by show 10-(x3++[_]).length<10-x3.length;rw[RS,List.length_cons,List.length_nil];omega)
 ·show (x3++[_]).length<=9;rw[RS,List.length_cons,List.length_nil];omega
 ·show x2/128<2^(64-7*(x3++[_]).length)
  rw[RS,List.length_cons,List.length_nil];have e:(2:Int)^(64-7*x3.length)=2^(64-7*(x3.length+1))*128:=by
   have:64-7*x3.length=(64-7*(x3.length+1))+7:=ah
   rw[this,Int.pow_add];rfl
  rw[e] at hc;exact Int.ediv_lt_of_lt_mul aX hc
theorem aBV (x:Int):wrap .u64 x<2^64:=by rw[IntKind.wrap_u64];exact Int.emod_lt_of_pos _ aX
theorem X6 {n:Nat}(x:Int)(hn:20<n):∃r:List Int,AL n x=some r/\r.length<=10:=by
 rw[aBs];refine kr (fun _=>?_) (fun _=>?_);all_goals
  generalize hz:wrap .u64 _=z;have hz0:0<=z:=by rw[<-hz];exact aBG _
  have hz1:z<2^64:=by rw[<-hz];exact aBV _
  obtain⟨r4,hr4,l4⟩:=aBT hz0 hz1 hn;refine eX ⟨r4,hr4,?_⟩;refine iA (y8 En aX) (jC ?_);rw[RS,List.length_cons,List.length_nil];omega
theorem aBW {n:Nat}{l:List UInt8}(hn:20<n)(hl:l.length<2^29):∃r:List Int,LW n l=some r/\r.length<=l.length+10:=by rw[aBu];obtain⟨r,hr,h⟩:=X6 (n:=n) (l.length:Int) hn;refine eX ⟨r,hr,iA (y8 (by rw[iG];omega) aX) (jC ?_)⟩;rw[RS,iG];omega
theorem aBX {n:Nat}{l:List Int}(hl:l.length<2^20)(hn:l.length<n)(hn2:20<n):∃r:List Int,Jn n l=some r/\r.length<=10+10*l.length:=by
 rw[aBt];obtain⟨r2,hr2,l2⟩:=X6 (n:=n) (l.length:Int) hn2;have h3:∀(k i m:Nat)(a:List Int),i+k=l.length->k<m->a.length<=10+10*i->∃r,Tm n l m (a,(i:Int))=some r/\r.length<=10+10*l.length:=by
  intro k;induction k with
  |zero=>intro i m a hi hm hc;obtain⟨m,rfl⟩:∃m',m=m'+1:=⟨m-1,ah⟩;rw[anu,qK ah];exact jC ah
  |succ k ih=>
   intro i m a hi hm hc;obtain⟨m,rfl⟩:∃m',m=m'+1:=⟨m-1,ah⟩;have hlt:i<l.length:=ah
   have hx:l[i]? =some l[i]:=jc hlt;rw[anu,jY hx,eB hx,gJ ah,cond_true,Option.bind_some];obtain⟨w,hw,lw⟩:=X6 (n:=n) l[i] hn2;refine eX ⟨w,hw,iA (y8 ah aX) ?_⟩;exact ih (i+1) m (a++w) ah ah Ct
 obtain⟨r,hr,e⟩:=h3 l.length 0 n r2 ah hn ah;exact eX ⟨r2,hr2,eX ⟨r,hr,jC e⟩⟩
theorem aBY {n:Nat}{l:List (List UInt8)}(hl:l.length<2^12)(hs:∀x∈l,x.length<=300)(hn:l.length<n)(hn2:20<n):∃r:List Int,LY n l=some r/\r.length<=10+310*l.length:=by
 rw[aBv];obtain⟨r2,hr2,l2⟩:=X6 (n:=n) (l.length:Int) hn2;have h3:∀(k i m:Nat)(a:List Int),i+k=l.length->k<m->a.length<=10+310*i->∃r,Tn n l m (a,(i:Int))=some r/\r.length<=10+310*l.length:=by
  intro k;induction k with
  |zero=>intro i m a hi hm hc;obtain⟨m,rfl⟩:∃m',m=m'+1:=⟨m-1,ah⟩;rw[anv,qK ah];exact jC ah
  |succ k ih=>
   intro i m a hi hm hc;obtain⟨m,rfl⟩:∃m',m=m'+1:=⟨m-1,ah⟩;have hlt:i<l.length:=ah
   have hx:l[i]? =some l[i]:=jc hlt;have aEV:=hs _ (jQ hlt);rw[anv,jY hx,eB hx,gJ ah,cond_true,Option.bind_some];obtain⟨w,hw,lw⟩:=aBW (n:=n) (l:=l[i]) hn2 ah;refine eX ⟨w,hw,iA (y8 ah aX) ?_⟩;exact ih (i+1) m (a++w) ah ah Ct
 obtain⟨r,hr,e⟩:=h3 l.length 0 n r2 ah hn ah;exact eX ⟨r2,hr2,eX ⟨r,hr,jC e⟩⟩
theorem aBZ {n:Nat}{e:Entry}(h:Ms e.Vec e.bU)(hn:2^20<n):∃r:List Int,F6 n e=some r/\r.length<=2^15:=by
 obtain⟨h1,h2,h3⟩:=h;rw[aBw];refine iA (y8 En aX) (iA (y8 oD aX) ?_);generalize hz:(([e.ID,e.iL,e.jg,e.kJ,e.From,e.To,e.iV,((e.Vec.length:Nat):Int)]++e.Vec)++[((e.bU.length:Nat):Int)])=z;have aEW:z.length<=49:=by rw[<-hz];simp only[RS,List.length_cons,List.length_nil];omega
 have h4:∀(k i m:Nat)(a:List Int)(b:List (List UInt8)),i+k=e.bU.length->k<m->a.length<=49+2*i->b.length<=2*i->(∀x∈b,x.length<=300)->
  ∃r,Tp n e m (a,(b,(i:Int)))=some r/\(r.1.length<=89/\r.2.length<=40/\∀x∈r.2,x.length<=300):=by
  intro k;induction k with
  |zero=>intro i m a b hi hm ha hb hx;obtain⟨m,rfl⟩:∃m',m=m'+1:=⟨m-1,ah⟩;rw[anw,qK ah];exact jC ⟨by show a.length<=89;omega,by show b.length<=40;omega,hx⟩
  |succ k ih=>
   intro i m a b hi hm ha hb hx;obtain⟨m,rfl⟩:∃m',m=m'+1:=⟨m-1,ah⟩;have hlt:i<e.bU.length:=ah
   have hg:e.bU[i]? =some e.bU[i]:=jc hlt;obtain⟨y1,y2⟩:=h3 _ (jQ hlt);rw[anw,jY hg,eB hg,gJ ah];simp only[cond_true,Option.bind_some];refine iA (y8 En aX) (iA (y8 En aX) ?_);refine ih (i+1) m _ _ ah ah (by rw[RS,List.length_cons,List.length_cons,List.length_nil];omega) (by rw[RS,List.length_cons,List.length_cons,List.length_nil];omega) (fun x hx'=>?_);rcases nG.1 hx' with hx'|hx'
   ·exact hx x hx'
   ·rcases fV.1 hx' with rfl|hx'
    ·exact y1
    ·rcases fV.1 hx' with rfl|hx'
     ·exact y2
     ·cases hx'
 obtain⟨r7,aB0,a7,b7,c7⟩:=h4 e.bU.length 0 n z [] ah ah ah aD (fun x hx=>absurd hx List.not_mem_nil);refine eX ⟨r7,aB0,?_⟩;obtain⟨r8,aB1,aEX⟩:=aBX (n:=n) (l:=r7.1) ah ah ah;obtain⟨dI,aB2,aEY⟩:=aBY (n:=n) (l:=r7.2) ah c7 ah ah;refine eX ⟨r8,aB1,iA (y8 ah aX) (eX ⟨dI,aB2,?_⟩)⟩;refine iA (y8 (by simp only[List.nil_append];omega) aX) (jC ?_);show ((([]:List Int)++r8)++dI).length<=2^15;rw[List.nil_append,RS];omega
def rF (l:List Attr)(x:List UInt8):Option Attr:=l.find? fun a=>a.Name==x
mutual
def jN (l:List Attr):Pred->Bool
 | ⟨op,name,n,m,s,subs⟩=>
   if op=1 then true else if op=2 then Mt l subs else if op=3 then anyS l subs else if op=4 then !anyS l subs else if op=5 then (rF l name).isSome else if op=6 then (match rF l name with|some a=>a.Kind==(1:Int)&& decide (a.N>=n)&& decide (a.N<=m)|none=>false) else if op=7 then (match rF l name with|some a=>a.Kind==(2:Int)&& a.S==s|none=>false) else false
def Mt (l:List Attr):List Pred->Bool
 | []=>true|p::ps=>jN l p&& Mt l ps
def anyS (l:List Attr):List Pred->Bool
 | []=>false|p::ps=>jN l p||anyS l ps
end
mutual
def iB:Pred->Nat
 | ⟨_,_,_,_,_,subs⟩=>xB subs+1
def xB:List Pred->Nat
 | []=>0|p::ps=>iB p+xB ps
end
theorem Yk (p:Pred):1<=iB p:=by cases p;simp[iB]
theorem Tw (p:Pred):iB p=xB p.bS+1:=by cases p;simp[iB]
theorem Tx:∀l:List Pred,l.length<=xB l
 | []=>aD|p::l=>by have:=Tx l;have:=Yk p;simp[xB];omega
theorem Tz:∀{l:List Pred}{p:Pred},p∈l->iB p<=xB l
 | [],_,h=>uH|q::l,p,h=>by
  rcases fV.1 h with rfl|h
  ·simp[xB]
  ·have:=Tz h;simp[xB];omega
theorem adq (l:List Attr):∀ps:List Pred,Mt l ps=ps.all (jN l)
 | []=>rfl|p::ps=>by rw[Mt,adq l ps,List.all_cons]
theorem adr (l:List Attr):∀ps:List Pred,anyS l ps=ps.any (jN l)
 | []=>rfl|p::ps=>by rw[anyS,adr l ps,List.any_cons]
theorem aB3 {n:Nat}{l:List Attr}{x:List UInt8}(h:l.length<n)(hb:l.length<2^62):UT n (l,x)=some (match rF l x with|some a=>(a,true)|none=>(⟨[],0,0,[]⟩,false)):=by
 have:=Ci (L:=fun m i=>Te n l x m i) (l:=l) (fun d i r=>bif d.Name==x then some (.inr (i:Int)) else r) (some (.inl ()))
  (fun m i d hd=>by have hlt:=lW hd;rw[anb,jY hd,eB hd,gJ ah];simp only[cond_true,Option.bind_some,aAT];rfl)
  (fun m=>by rw[anb,sQ];rfl) h
 rw[aAV,aAU,this,Gp (fun d:Attr=>d.Name==x) (fun i=>(Sum.inr (i:Int):PUnit⊕Int)) (.inl ())];have hg:=X4 (fun d:Attr=>d.Name==x) l;unfold rF;rw[<-hg];cases hf:l.findIdx? (fun d=>d.Name==x) with
 |none=>rfl|some j=>
  obtain⟨hj,_,_⟩:=List.findIdx?_eq_some_iff_getElem.1 hf;simp only[Option.bind_some,Sum.elim_inr,nH];have e:decide (((j:Nat):Int)< (0:Int))=false:=aD
  show (bif decide (((j:Nat):Int)< (0:Int)) then (some ((⟨[],(0:Int),(0:Int),[]⟩:Attr),false):Option (Attr×Bool)) else (aN l ((j:Nat):Int)).bind fun r4=>some (r4,true))=_;rw[e,cond_false,AP,jc hj];rfl
theorem aB4 {n:Nat}{l:List Attr}{x:List UInt8}(h:l.length<n)(hb:l.length<2^62):DW n (l,x)=some (match rF l x with|some a=>⟨a,true⟩|none=>⟨⟨[],0,0,[]⟩,false⟩):=by
 have:=Ci (L:=fun m i=>Mq n l x m (i,⟨⟨[],0,0,[]⟩,false⟩)) (l:=l) (fun d _ r=>bif d.Name==x then some (.inr ((),⟨d,true⟩)) else r) (some (.inl ((),⟨⟨[],0,0,[]⟩,false⟩)))
  (fun m i d hd=>by have hlt:=lW hd;rw[anm,jY hd,eB hd,gJ ah];rfl)
  (fun m=>by rw[anm,sQ];rfl) h
 have key:∀(l:List Attr)(i:Nat),foldI (σ:=Unit) (fun (d:Attr) (_:Nat) (_:Unit) (k:Unit->Option ((PUnit×gu)⊕(PUnit×gu)))=>bif d.Name==x then some (.inr ((),⟨d,true⟩)) else k ()) (fun _=>some (.inl ((),⟨⟨[],0,0,[]⟩,false⟩))) i l ()=some (match l.find? (fun a=>a.Name==x) with|some a=>.inr ((),⟨a,true⟩)|none=>.inl ((),⟨⟨[],0,0,[]⟩,false⟩)):=by
  intro l;induction l with
  |nil=>intro i;rfl|cons a l ih=>
   intro i;show (bif a.Name==x then _ else foldI _ _ (i+1) l ())=_;rw[List.find?_cons];cases a.Name==x
   ·exact ih (i+1)
   ·rfl
 have Gr:Mq n l x n ((0:Int),⟨⟨[],0,0,[]⟩,false⟩)=_:=this;rw[aBj,Gr,key l 0];unfold rF;cases l.find? (fun a=>a.Name==x)<;>rfl
theorem anM {n:Nat}{l:List Attr}(h:l.length<n)(hb:l.length<2^62):∀(g:Nat)(p:Pred),iB p<=g->iB p<n->iB p<2^62->LA n g (p,l)=some (jN l p)
 |0,p,hg,_,_=>Ur|g+1,p,hg,hn,hp=>by
  have hs:=Tw p;have hlen:=Tx p.bS;have:=adl (L:=fun m s i=>Gj n g p l m (s,i)) (l:=p.bS) (fun x _ s k=>bif jN l x then k (wrap .i64 (s+(1:Int))) else k s) (fun s=>some s)
   (fun m i x s hx=>by have hlt:=lW hx;have hm:x∈p.bS:=pF hx;have hsz:=Tz hm;rw[ano,jY hx,eB hx,gJ ah];simp only[cond_true,Option.bind_some,Pred.lH];rw[anM h hb g x ah ah ah];rfl)
   (fun m s=>by rw[ano,sQ];rfl) (fun x i s k k' hk=>by rw[hk,hk]) p.bS.length 0 n (0:Int) ah ah
  rw[CG,adn (jN l) p.bS 0 0 ah ah] at this;have Gr:Gj n g p l n ((0:Int),(0:Int))=_:=this;rw[aBk,Gr,Option.bind_some];have hget:=aB4 (n:=n) (l:=l) (x:=p.Name) h hb;have e1:(0+((p.bS.countP (jN l):Nat):Int)==(((p.bS.length:Nat)):Int))=Mt l p.bS:=by rw[adq,Bool.eq_iff_iff,beq_iff_eq,kG,Int.zero_add,Int.natCast_inj,List.countP_eq_length]
  have e2:decide (0+((p.bS.countP (jN l):Nat):Int)> (0:Int))=anyS l p.bS:=by
   rw[adr,Bool.eq_iff_iff,decide_eq_true_iff,List.any_eq_true];have:=List.countP_pos_iff (p:=jN l) (l:=p.bS);constructor
   ·intro h;exact this.1 ah
   ·intro h;have:=this.2 h;omega
  have e3:(0+((p.bS.countP (jN l):Nat):Int)==(0:Int))= !anyS l p.bS:=by rw[<-e2,Bool.eq_iff_iff];simp
  cases hgA:rF l p.Name with
  |none=>
   rw[hgA] at hget;obtain⟨op,name,a,b,s,subs⟩:=p;change DW n (l,name)=_ at hget;change rF l name=_ at hgA;dsimp only at e1 e2 e3⊢;rw[hget];change (bif op==(1:Int) then _ else _)=_;unfold jN;simp only[e1,e2,e3,hgA];by_cases o1:op=1
   · (simp[o1];try rfl)
   ·by_cases o2:op=2
    · (simp[o2];try rfl)
    ·by_cases o3:op=3
     · (simp[o3];try rfl)
     ·by_cases o4:op=4
      · (simp[o4];try rfl)
      ·by_cases o5:op=5
       · (simp[o5];try rfl)
       ·by_cases o6:op=6
        · (simp[o6];try rfl)
        ·have b1:(op==(1:Int))=false:=by simpa using o1
         have b2:(op==(2:Int))=false:=(by simpa using o2);have b3:(op==(3:Int))=false:=(by simpa using o3);have b4:(op==(4:Int))=false:=(by simpa using o4);have b5:(op==(5:Int))=false:=(by simpa using o5);have b6:(op==(6:Int))=false:=(by simpa using o6);rw[b1,b2,b3,b4,b5,b6];by_cases y9:op=7
         · (simp[y9];try rfl)
         ·have b7:(op==(7:Int))=false:=by simpa using y9
          rw[b7]
          (simp[o1,o2,o3,o4,o5,o6,y9];try rfl)
  |some at_=>
   rw[hgA] at hget;obtain⟨op,name,a,b,s,subs⟩:=p;change DW n (l,name)=_ at hget;change rF l name=_ at hgA;dsimp only at e1 e2 e3⊢;rw[hget];change (bif op==(1:Int) then _ else _)=_;unfold jN;simp only[e1,e2,e3,hgA];by_cases o1:op=1
   · (simp[o1];try rfl)
   ·by_cases o2:op=2
    · (simp[o2];try rfl)
    ·by_cases o3:op=3
     · (simp[o3];try rfl)
     ·by_cases o4:op=4
      · (simp[o4];try rfl)
      ·by_cases o5:op=5
       · (simp[o5];try rfl)
       ·by_cases o6:op=6
        · (simp[o6];try rfl)
        ·have b1:(op==(1:Int))=false:=by simpa using o1
         have b2:(op==(2:Int))=false:=(by simpa using o2);have b3:(op==(3:Int))=false:=(by simpa using o3);have b4:(op==(4:Int))=false:=(by simpa using o4);have b5:(op==(5:Int))=false:=(by simpa using o5);have b6:(op==(6:Int))=false:=(by simpa using o6);rw[b1,b2,b3,b4,b5,b6];by_cases y9:op=7
         · (simp[y9];try rfl)
         ·have b7:(op==(7:Int))=false:=by simpa using y9
          rw[b7]
          (simp[o1,o2,o3,o4,o5,o6,y9];try rfl)
theorem aB5 {n g:Nat}{l:List Attr}{p:Pred}(hH:∀x∈p.bS,AA n g (l,x)=some (jN l x))(hn:p.bS.length<n)(hb:p.bS.length<2^62):Ry n (g+1) (l,p)=some (Mt l p.bS):=by
 have:=Ci (L:=fun m i=>Tf n g l p m i) (l:=p.bS) (fun x _ r=>bif !(jN l x) then some (.inr false) else r) (some (.inl ()))
  (fun m i x hx=>by have hlt:=lW hx;rw[anc,jY hx,eB hx,gJ ah];simp only[cond_true,Option.bind_some,Pred.lH];rw[hH x (pF hx)];rfl)
  (fun m=>by rw[anc,sQ];rfl) hn
 rw[aA0,this,anA (fun x=>!(jN l x)) (Sum.inr false:PUnit⊕Bool) (.inl ())];rw[adq];cases h:p.bS.any fun x=>!(jN l x)
 ·have:p.bS.all (jN l)=true:=by rw[kG];rw[List.any_eq_false] at h;intro x hx;have:=h x hx;simpa using this
  rw[this];rfl
 ·have:p.bS.all (jN l)=false:=by rw[List.all_eq_false];rw[List.any_eq_true] at h;obtain⟨x,hx,h2⟩:=h;exact⟨x,hx,pq⟩
  rw[this];rfl
theorem anN {n g:Nat}{l:List Attr}{ps:List Pred}(hH:∀x∈ps,AA n g (l,x)=some (jN l x))(hn:ps.length<n)(hb:ps.length<2^62):Rz n (g+2) (ps,(l,()))=some (anyS l ps):=by
 have:=Ci (L:=fun m i=>Tg n g ps l m i) (l:=ps) (fun x i r=>bif jN l x then some (.inr (i:Int)) else r) (some (.inl ()))
  (fun m i x hx=>by have hlt:=lW hx;rw[anf,jY hx,eB hx,gJ ah];simp only[cond_true,Option.bind_some,Pred.lH];rw[hH x (pF hx)];rfl)
  (fun m=>by rw[anf,sQ];rfl) hn
 rw[aA1,aA2,this,Gp (jN l) (fun i=>(Sum.inr (i:Int):PUnit⊕Int)) (.inl ())];rw[adr];cases hf:ps.findIdx? (jN l) with
 |none=>
  rw[List.findIdx?_eq_none_iff] at hf;have:ps.any (jN l)=false:=by rw[List.any_eq_false];intro y hy;simpa using hf y hy
  rw[this];rfl
 |some j=>
  obtain⟨hj,h2,_⟩:=List.findIdx?_eq_some_iff_getElem.1 hf;have:ps.any (jN l)=true:=by rw[List.any_eq_true];exact⟨ps[j],jQ hj,h2⟩
  rw[this];show some (decide (((0+j:Nat):Int)>=(0:Int)))=some true;rw[decide_eq_true ah]
theorem anO {n:Nat}{l:List Attr}(h:l.length<n)(hb:l.length<2^62):∀(k g:Nat)(p:Pred),iB p<=k->6*iB p<=g->iB p<n->iB p<2^62->AA n g (l,p)=some (jN l p)
 |0,g,p,hk,_,_,_=>Ur|k+1,g,p,hk,hg,hn,hp=>by
  have hs:=Tw p;have hlen:=Tx p.bS;have hpos:=Yk p;obtain⟨g,rfl⟩:∃g',g=g'+6:=⟨g-6,ah⟩;have hsub:∀g',g<=g'->∀x∈p.bS,AA n g' (l,x)=some (jN l x):=fun g' hg' x hx=>by have:=Tz hx;exact anO h hb k g' x ah ah ah ah
  have hand:=aB5 (n:=n) (g:=g+4) (l:=l) (p:=p) (hsub _ ah) ah ah;have hor:K7 n (g+5) (l,p)=some (anyS l p.bS):=by rw[ane,anN (n:=n) (g:=g+2) (hsub _ ah) ah ah];rfl
  have hnot:RA n (g+5) (l,p)=some (!anyS l p.bS):=by rw[aA3,Pred.lH,ane,anN (n:=n) (g:=g+1) (hsub _ ah) ah ah];rfl
  have hget:=aB3 (n:=n) (l:=l) (x:=p.Name) h hb;have hhas:KY n (l,p)=some (rF l p.Name).isSome:=by rw[aAW,hget];cases rF l p.Name<;>rfl
  have aB6:K3 n (l,p)=some (match rF l p.Name with|some a=>a.Kind==(1:Int)&& decide (a.N>=p.N)&& decide (a.N<=p.M)|none=>false):=by
   rw[aAX,hget];cases rF l p.Name with
   |none=>rfl|some a=>change some _=some _;congr 1;change (bif bif bif true then a.Kind==(1:Int) else false then decide (a.N>=p.N) else false then decide (a.N<=p.M) else false)=(a.Kind==(1:Int)&& decide (a.N>=p.N)&& decide (a.N<=p.M));cases a.Kind==(1:Int)<;>cases decide (a.N>=p.N)<;>cases decide (a.N<=p.M)<;>rfl
  have hword:K5 n (l,p)=some (match rF l p.Name with|some a=>a.Kind==(2:Int)&& a.S==p.S|none=>false):=by
   rw[aAY,hget];cases rF l p.Name with
   |none=>rfl|some a=>change some _=some _;congr 1;change (bif bif true then a.Kind==(2:Int) else false then a.S==p.S else false)=(a.Kind==(2:Int)&& a.S==p.S);cases a.Kind==(2:Int)<;>cases a.S==p.S<;>rfl
  have hall:KT n (l,p)=some true:=by rw[aAS]
  rw[aAZ];simp only[Pred.lH];rw[hall,hand,hor,hnot,hhas,aB6,hword];obtain⟨op,name,a,b,s,subs⟩:=p;unfold jN;dsimp only;by_cases o1:op=1
  · (simp[o1];try rfl)
  ·have b1:(op==(1:Int))=false:=by simpa using o1
   rw[b1,if_neg o1];by_cases o2:op=2
   · (simp[o2];try rfl)
   ·have b2:(op==(2:Int))=false:=by simpa using o2
    rw[b2,if_neg o2];by_cases o3:op=3
    · (simp[o3];try rfl)
    ·have b3:(op==(3:Int))=false:=by simpa using o3
     rw[b3,if_neg o3];by_cases o4:op=4
     · (simp[o4];try rfl)
     ·have b4:(op==(4:Int))=false:=by simpa using o4
      rw[b4,if_neg o4];by_cases o5:op=5
      · (simp[o5];try rfl)
      ·have b5:(op==(5:Int))=false:=by simpa using o5
       rw[b5,if_neg o5];by_cases o6:op=6
       · (simp[o6];try rfl)
       ·have b6:(op==(6:Int))=false:=by simpa using o6
        rw[b6,if_neg o6];by_cases y9:op=7
        · (simp[y9];try rfl)
        ·have b7:(op==(7:Int))=false:=by simpa using y9
         rw[b7,if_neg y9];rfl
theorem aB7 {n:Nat}{l:List Attr}{p:Pred}(h:l.length<n)(hb:l.length<2^62)(hp:6*iB p<n)(hq:iB p<2^62):UI n (p,l)=some (jN l p):=by
 have e:K6 n (l,p)=AA n n (l,p):=by unfold K6;rfl
 rw[aA4,Pred.lH,e,anO h hb (iB p) n p (iP _) ah ah hq];rfl
theorem aB8 {n:Nat}{l:List Attr}{p:Pred}(h:l.length<n)(hb:l.length<2^62)(hp:iB p<n)(hq:iB p<2^62):DX n (p,l)=some (jN l p):=by
 have e:DX n (p,l)=LA n n (p,l):=by unfold DX;rfl
 rw[e,anM h hb n p ah hp hq]
end Sh
end
section
open Go Go.Proofs aR
namespace Sh
def Ck (p:Pred):Bool:=
 if (p.Op<5/\p.Name≠[])\/(p.Op≠6/\(p.N≠0\/p.M≠0))\/(p.Op≠7/\p.S≠[]) then false else if p.N>p.M then false else if p.Op=2\/p.Op=3 then decide (p.bS≠[]) else if p.Op=4 then decide (p.bS.length=1) else decide (p.bS=[])
theorem aB9 (n:Nat)(p:Pred):Wc n p=some (Ck p):=by
 obtain⟨op,name,a,b,s,subs⟩:=p;rw[aA8];simp only[aBB,anB];have key:(bif bif bif bif decide (op< (5:Int)) then decide (name≠[]) else false then true else bif op !=(6:Int) then bif a !=(0:Int) then true else b !=(0:Int) else false then true else bif op !=(7:Int) then decide (s≠[]) else false then some false else bif decide (a>b) then some false else bif bif op==(2:Int) then true else op==(3:Int) then some (decide (subs≠[]))else bif op==(4:Int) then some ((subs.length:Int)==(1:Int))else some (decide (subs=[])))=some (Ck ⟨op,name,a,b,s,subs⟩):=by
  unfold Ck;dsimp only;by_cases c1:(op<5/\name≠[])\/(op≠6/\(a≠0\/b≠0))\/(op≠7/\s≠[])
  ·rw[if_pos c1]
   have:(bif bif bif decide (op< (5:Int)) then decide (name≠[]) else false then true else bif op !=(6:Int) then bif a !=(0:Int) then true else b !=(0:Int) else false then true else bif op !=(7:Int) then decide (s≠[]) else false)=true:=by
    simp only[Bool.cond_true_right,Bool.cond_false_right,Bool.cond_true_left,oF,aT,decide_eq_true_iff,bne_iff_ne];rcases c1 with c|c|c
    ·exact .inl (.inl c)
    ·exact .inl (.inr c)
    ·exact .inr c
   rw[this];rfl
  ·rw[if_neg c1]
   have:(bif bif bif decide (op< (5:Int)) then decide (name≠[]) else false then true else bif op !=(6:Int) then bif a !=(0:Int) then true else b !=(0:Int) else false then true else bif op !=(7:Int) then decide (s≠[]) else false)=false:=by
    rw[Bool.eq_false_iff];intro h;simp only[Bool.cond_true_right,Bool.cond_false_right,Bool.cond_true_left,oF,aT,decide_eq_true_iff,bne_iff_ne] at h;rcases h with (h|h)|h
    ·exact c1 (.inl h)
    ·exact c1 (.inr (.inl h))
    ·exact c1 (.inr (.inr h))
   rw[this,cond_false];by_cases c2:a>b
   ·rw[if_pos c2,decide_eq_true c2];rfl
   ·rw[if_neg c2,decide_eq_false c2,cond_false]
    by_cases c3:op=2\/op=3
    ·rw[if_pos c3]
     have:(bif op==(2:Int) then true else op==(3:Int))=true:=(by rcases c3 with rfl|rfl<;>rfl);rw[this];rfl
    ·rw[if_neg c3]
     have:(bif op==(2:Int) then true else op==(3:Int))=false:=(by rw[Bool.eq_false_iff];intro h;simp at h;exact c3 h);rw[this,cond_false];by_cases c4:op=4
     ·rw[if_pos c4,c4]
      show some _=some _;congr 1;rw[Bool.eq_iff_iff];simp;omega
     ·rw[if_neg c4]
      have:(op==(4:Int))=false:=(by simpa using c4);rw[this];rfl
 exact key
theorem aCa (n:Nat)(p:Pred):VV n p=some (Ck p):=by
 obtain⟨op,name,a,b,s,subs⟩:=p;rw[aAf];simp only[anB,aBC];have key:(bif bif bif bif !(decide (op>=(5:Int))) then !(decide (name=[])) else false then true else bif op !=(6:Int) then bif a !=(0:Int) then true else b !=(0:Int) else false then true else bif op !=(7:Int) then !(decide (s=[])) else false then some false else bif bif bif decide (a>b) then true else bif bif op==(2:Int) then true else op==(3:Int) then decide (subs=[]) else false then true else bif op==(4:Int) then (subs.length:Int) !=(1:Int) else false then some false else some (bif bif bif op==(2:Int) then true else op==(3:Int) then true else op==(4:Int) then true else decide (subs=[])))=some (Ck ⟨op,name,a,b,s,subs⟩):=by
  unfold Ck;dsimp only;by_cases c1:(op<5/\name≠[])\/(op≠6/\(a≠0\/b≠0))\/(op≠7/\s≠[])
  ·rw[if_pos c1]
   have:(bif bif bif !(decide (op>=(5:Int))) then !(decide (name=[])) else false then true else bif op !=(6:Int) then bif a !=(0:Int) then true else b !=(0:Int) else false then true else bif op !=(7:Int) then !(decide (s=[])) else false)=true:=by
    simp only[Bool.cond_true_right,Bool.cond_false_right,Bool.cond_true_left,oF,aT,decide_eq_true_iff,bne_iff_ne,pE,decide_eq_false_iff_not];rcases c1 with c|c|c
    ·exact .inl (.inl ⟨ah,c.2⟩)
    ·exact .inl (.inr c)
    ·exact .inr c
   rw[this];rfl
  ·rw[if_neg c1]
   have:(bif bif bif !(decide (op>=(5:Int))) then !(decide (name=[])) else false then true else bif op !=(6:Int) then bif a !=(0:Int) then true else b !=(0:Int) else false then true else bif op !=(7:Int) then !(decide (s=[])) else false)=false:=by
    rw[Bool.eq_false_iff];intro h;simp only[Bool.cond_true_right,Bool.cond_false_right,Bool.cond_true_left,oF,aT,decide_eq_true_iff,bne_iff_ne,pE,decide_eq_false_iff_not] at h;rcases h with (h|h)|h
    ·exact c1 (.inl ⟨ah,h.2⟩)
    ·exact c1 (.inr (.inl h))
    ·exact c1 (.inr (.inr h))
   rw[this,cond_false];by_cases c2:a>b
   ·rw[if_pos c2,decide_eq_true c2];rfl
   ·rw[if_neg c2,decide_eq_false c2,cond_false]
    by_cases c3:op=2\/op=3
    ·rw[if_pos c3]
     have h4:(op==(4:Int))=false:=(by rcases c3 with rfl|rfl<;>rfl);have:(bif op==(2:Int) then true else op==(3:Int))=true:=(by rcases c3 with rfl|rfl<;>rfl);rw[this,h4];by_cases hs:subs=[]<;>simp[hs]
    ·rw[if_neg c3]
     have:(bif op==(2:Int) then true else op==(3:Int))=false:=(by rw[Bool.eq_false_iff];intro h;simp at h;exact c3 h);rw[this,cond_false];by_cases c4:op=4
     ·rw[if_pos c4,c4]
      by_cases hl:subs.length=1
      ·simp[hl]
      ·have:((subs.length:Int) !=(1:Int))=true:=by rw[bne_iff_ne];omega
       rw[this];simp[hl]
     ·rw[if_neg c4]
      have:(op==(4:Int))=false:=(by simpa using c4);rw[this];rfl
 exact key
theorem aCb {n:Nat}{s:aJ}{x:List UInt8}(h:s.Defs.length<n)(hb:s.Defs.length<2^62):Wa n (s,x)=some (match s.Defs.find? (fun d=>d.Name==x) with|some d=>(d,true)|none=>(⟨[],0,0,0,[]⟩,false)):=by
 have:=Ci (L:=fun m i=>SA n s.Defs x m i) (l:=s.Defs) (fun d i r=>bif d.Name==x then some (.inr (i:Int)) else r) (some (.inl ()))
  (fun m i d hd=>by have hlt:=lW hd;rw[am3,jY hd,eB hd,gJ ah];simp only[cond_true,Option.bind_some,aAg];rfl)
  (fun m=>by rw[am3,sQ];rfl) h
 rw[aAi,aAh,this,Gp (fun d:Def=>d.Name==x) (fun i=>(Sum.inr (i:Int):PUnit⊕Int)) (.inl ())];have hg:=X4 (fun d:Def=>d.Name==x) s.Defs;rw[<-hg];cases hf:s.Defs.findIdx? (fun d=>d.Name==x) with
 |none=>rfl|some j=>
  obtain⟨hj,_,_⟩:=List.findIdx?_eq_some_iff_getElem.1 hf;simp only[Option.bind_some,Sum.elim_inr,nH];have e:decide (((j:Nat):Int)< (0:Int))=false:=aD
  show (bif decide (((j:Nat):Int)< (0:Int)) then (some ((⟨[],(0:Int),(0:Int),(0:Int),[]⟩:Def),false):Option (Def×Bool)) else (aN s.Defs ((j:Nat):Int)).bind fun r4=>some (r4,true))=_;rw[e,cond_false,AP,jc hj];rfl
def za:List Pred->List Pred->List Pred
 |acc,[]=>acc|acc,x::l=>if acc.length<1000 then za (acc++(pre x).take 1000) l else acc
theorem anP:∀(l acc:List Pred),(za acc l).take 1000=(acc++oo l).take 1000
 | [],acc=>by simp[za,oo]|x::l,acc=>by
  rw[za,oo];split
  ·rename_i h
   rw[anP l,<-jR];by_cases h2:(pre x).length<=1000
   ·rw[uM h2]
   ·have l1:1000<=(acc++(pre x).take 1000).length:=by rw[RS,j3];omega
    have l2:1000<=(acc++pre x).length:=Ct;rw[Yl l1,Yl l2,List.take_append,List.take_append,List.take_take];congr 2;omega
  ·rename_i h
   rw[Yl ah]
theorem aCc {a:Nat}(h:a<2000):dB a 80=true:=by unfold dB;rw[aT,decide_eq_true_iff,decide_eq_true_iff];exact⟨ah,ah⟩
theorem anQ {n:Nat}:∀(g:Nat)(p:Pred),iB p<=g->iB p<n->iB p<2^62->JI n g p=some ((pre p).take 1000)
 |0,p,hg,_,_=>Ur|g+1,p,hg,hn,hp=>by
  have hs:=Tw p;have hlen:=Tx p.bS;have:=adl (L:=fun m (s:List Pred) i=>Ea n g p m (s,i)) (l:=p.bS) (fun x _ s k=>if s.length<1000 then k (s++(pre x).take 1000) else some s) (fun s=>some s)
   (fun m i x s hx=>by
     have hlt:=lW hx;have hm:x∈p.bS:=pF hx;have hsz:=Tz hm;show Ea n g p (m+1) (s,(i:Int))=_;rw[amJ,jY hx,eB hx,gJ ah];simp only[cond_true,Option.bind_some,Pred.lH];rw[anQ g x ah ah ah];by_cases h:s.length<1000
     ·have e:decide ((s.length:Int)< (1000:Int))=true:=eY
      have hl:((pre x).take 1000).length<=1000:=eY;rw[e,if_pos h,cond_true];show (bif dB (s.length+((pre x).take 1000).length) 80 then _ else none)=_;rw[aCc ah];rfl
     ·have e:decide ((s.length:Int)< (1000:Int))=false:=eY
      rw[e,if_neg h];rfl)
   (fun m s=>by show Ea n g p (m+1) (s,((p.bS.length:Nat):Int))=_;rw[amJ,sQ];rfl) (fun x i s k k' hk=>by rw[hk]) p.bS.length 0 n [p] ah ah
  have key:∀(l:List Pred)(i:Nat)(s:List Pred),foldI (fun (x:Pred) (_:Nat) (s:List Pred) (k:List Pred->Option (List Pred))=>if s.length<1000 then k (s++(pre x).take 1000) else some s) (fun s=>some s) i l s=some (za s l):=by
   intro l;induction l with
   |nil=>intro i s;rfl|cons x l ih=>
    intro i s;show (if s.length<1000 then foldI _ _ (i+1) l (s++(pre x).take 1000) else some s)=_;rw[za];split
    ·exact ih (i+1) _
    ·rfl
  rw[CG,key] at this;have Gr:Ea n g p n ([p],(0:Int))=some (za [p] p.bS):=this;rw[azQ,Pred.lH,Gr,Option.bind_some,pre_eq];have ht:=anP p.bS [p];have e2:Int.toNat (1000:Int)=1000:=rfl;by_cases h:(za [p] p.bS).length>1000
  ·have e:decide ((((za [p] p.bS).length:Nat):Int)> (1000:Int))=true:=eY
   have e3:u6 (1000:Int) (za [p] p.bS).length=true:=by unfold u6;simp;omega
   rw[e,cond_true,e3,cond_true,e2,ht];rfl
  ·have e:decide ((((za [p] p.bS).length:Nat):Int)> (1000:Int))=false:=eY
   rw[e,cond_false];rw[uM ah] at ht;rw[ht];rfl
theorem anR {n:Nat}{p:Pred}(hn:iB p<n)(hp:iB p<2^62):QQ n p=some ((pre p).take 1000):=by
 have e:QQ n p=JI n n p:=by unfold QQ;rfl
 rw[e,anQ n p ah hn hp]
def Gs (s:aJ)(x:Pred):Option Int:=
 if x.Op<1\/x.Op>7 then some 1 else if Ck x=false then some 3 else if x.Op<5 then none else match s.Defs.find? (fun d=>d.Name==x.Name) with
 |none=>some 5|some d=>if (x.Op=6/\d.Kind≠1)\/(x.Op=7/\d.Kind≠2) then some 130 else none
def Ef (s:aJ):List Pred->Option Int
 | []=>none|x::l=>match Gs s x with
  |some e=>some e|none=>Ef s l
theorem anS {α:Type}(c:α->Option Int):∀(l:List α)(i:Nat),foldI (σ:=Unit) (fun x _ _ (k:Unit->Option (PUnit⊕Int))=>match c x with|some e=>some (Sum.inr e:PUnit⊕Int)|none=>k ()) (fun _=>some (Sum.inl ():PUnit⊕Int)) i l ()=some (match l.findSome? c with|some e=>(Sum.inr e:PUnit⊕Int)|none=>.inl ())
 | [],i=>rfl|x::l,i=>by
  show (match c x with|some e=>some (Sum.inr e:PUnit⊕Int)|none=>foldI _ _ (i+1) l ())=_;rw[List.findSome?_cons];cases c x with
  |none=>exact anS c l (i+1)|some e=>rfl
theorem anT (s:aJ):∀l:List Pred,Ef s l=l.findSome? (Gs s)
 | []=>rfl|x::l=>by rw[Ef,List.findSome?_cons,anT s l];cases Gs s x<;>rfl
theorem anU {n:Nat}{s:aJ}{p:Pred}(hn:iB p<n)(hp:iB p<2^62)(hd:s.Defs.length<n)(hdb:s.Defs.length<2^62)(hk:1000<n):
 DV n (s,p)=some (if ((pre p).take 1000).length>64 then 2 else (Ef s ((pre p).take 1000)).getD 0):=by
 generalize hl:(pre p).take 1000=l;have hlen:l.length<=1000:=by rw[<-hl,j3];omega
 have:=Ci (L:=fun m i=>Cg n s l m i) (l:=l) (fun x _ r=>match Gs s x with|some e=>some (Sum.inr e:PUnit⊕Int)|none=>r) (some (.inl ()))
  (fun m i x hx=>by
    have hlt:=lW hx;show Cg n s l (m+1) (i:Int)=_;rw[anh,jY hx,eB hx,gJ ah];simp only[cond_true,Option.bind_some,Pred.lH];rw[aB9,anD hd hdb];unfold Gs;by_cases c1:x.Op<1\/x.Op>7
    ·rw[if_pos c1]
     have:(bif decide (x.Op< (1:Int)) then true else decide (x.Op> (7:Int)))=true:=by
      rcases c1 with c|c
      ·rw[decide_eq_true c];rfl
      ·rw[decide_eq_true c];cases decide (x.Op<1)<;>rfl
     rw[this];rfl
    ·rw[if_neg c1]
     have:(bif decide (x.Op< (1:Int)) then true else decide (x.Op> (7:Int)))=false:=(by rw[decide_eq_false ah,decide_eq_false ah];rfl);rw[this,cond_false];cases hform:Ck x
     ·rw[if_pos rfl];rfl
     ·rw[if_neg aD]
      show (bif !true then some (.inr (3:Int)) else bif decide (x.Op< (5:Int)) then _ else _)=_;by_cases c2:x.Op<5
      ·rw[if_pos c2,decide_eq_true c2];rfl
      ·rw[if_neg c2,decide_eq_false c2]
       have hg:=X4 (fun d:Def=>d.Name==x.Name) s.Defs;rw[<-hg];rw[Bool.not_true,cond_false,cond_false];show Option.bind (some (findD s x.Name)) _=_;rw[Option.bind_some];unfold findD;cases hf:s.Defs.findIdx? (fun d=>d.Name==x.Name) with
       |none=>rfl|some j=>
        obtain⟨hj,_,_⟩:=List.findIdx?_eq_some_iff_getElem.1 hf;have hi:aN s.Defs ((j:Nat):Int)=some s.Defs[j]:=(by rw[AP,jc hj]);dsimp only;rw[jc hj,hi];dsimp only;have e:decide (((j:Nat):Int)< (0:Int))=false:=aD;rw[e,cond_false];generalize s.Defs[j]=d;have o:x.Op=5\/x.Op=6\/x.Op=7:=ah;by_cases k1:d.Kind=1<;>by_cases k2:d.Kind=2<;>rcases o with o|o|o<;>simp[o,k1,k2,jS]<;>first
         | (have h1:(d.Kind !=(1:Int))=true:=bne_iff_ne.2 ah;rw[h1];rfl)
         | (have h2:(d.Kind !=(2:Int))=true:=bne_iff_ne.2 ah;rw[h2];rfl))
  (fun m=>by show Cg n s l (m+1) (l.length:Int)=_;rw[anh,sQ];rfl) (show l.length<n by omega)
 have Gr:Cg n s l n (0:Int)=_:=this;rw[aA9,Pred.lH,anR hn hp,hl];show (bif decide ((l.length:Int)> (64:Int)) then some (2:Int) else _)=_;by_cases c:l.length>64
 ·rw[if_pos c,decide_eq_true ah];rfl
 ·rw[if_neg c,decide_eq_false ah,cond_false,Gr,anS,anT]
  cases l.findSome? (Gs s)<;>rfl
mutual
theorem anV:∀p:Pred,(pre p).length=iB p
 | ⟨op,name,n,m,s,subs⟩=>by simp only[pre,iB,List.length_cons,anW subs]
theorem anW:∀l:List Pred,(oo l).length=xB l
 | []=>rfl|p::l=>by simp only[oo,xB,RS,anV p,anW l]
end
theorem anX {p:Pred}(h:iB p<2^62):DK p=some (pre p):=by unfold DK;rw[anV,if_pos h]
theorem anY {n:Nat}:∀(l:List Pred)(c:Nat),c<1000->Ce n l ((),(c:Int))=some (if c+l.length<1000 then .inl ((),((c+l.length:Nat):Int)) else .inr ((),(1000:Int)))
 | [],c,hc=>by rw[aAc,if_pos Us];rfl|x::l,c,hc=>by
  have:=aAd n x l (c:Int);rw[show Ce n (x::l) ((),(c:Int))=_ from this,gJ ah];by_cases h:c+1=1000
  ·have e:((((c+1:Nat):Int))==(1000:Int))=true:=by rw[h];rfl
   rw[e,cond_true,if_neg eY,h];rfl
  ·have e:((((c+1:Nat):Int))==(1000:Int))=false:=eY
   rw[e,cond_false];have:=anY (n:=n) l (c+1) ah;rw[show Ce n l ((),(((c+1:Nat):Int)))=_ from this];have e2:c+1+l.length=c+(x::l).length:=eY
   rw[e2]
theorem aCd {n:Nat}{p:Pred}(h:iB p<2^62):Km n p=some ((((pre p).take 1000).length:Nat):Int):=by
 rw[aAe,Pred.lH];refine bs (am2 n p) ?_;show ((DK p.re).bind _).bind _=_;rw[Pred.lH];rw[anX h,Option.bind_some];have:=anY (n:=n) (pre p) 0 ah;rw[show Ce n (pre p) ((),(0:Int))=_ from this,nH];by_cases c:(pre p).length<1000
 ·rw[if_pos c,uM ah];rfl
 ·rw[if_neg c,j3,Nc ah];rfl
theorem anZ {n:Nat}{s:aJ}(hd:s.Defs.length<n)(hdb:s.Defs.length<2^62):∀l:List Pred,yZ n s l ((),(0:Int))=some (match Ef s l with|some e=>.inr ((),e)|none=>.inl ((),(0:Int)))
 | []=>aAj n s 0|x::l=>by
  have ih:=anZ (n:=n) (s:=s) hd hdb l;have:=aAk n s x l (0:Int);rw[show yZ n s (x::l) ((),(0:Int))=_ from this,Pred.lH];rw[Ef];unfold Gs;by_cases c1:x.Op<1\/x.Op>7
  ·rw[if_pos c1]
   have:(bif decide (x.Op< (1:Int)) then true else decide (x.Op> (7:Int)))=true:=by
    rcases c1 with c|c
    ·rw[decide_eq_true c];rfl
    ·rw[decide_eq_true c];cases decide (x.Op<1)<;>rfl
   rw[this];rfl
  ·rw[if_neg c1]
   have:(bif decide (x.Op< (1:Int)) then true else decide (x.Op> (7:Int)))=false:=by rw[decide_eq_false ah,decide_eq_false ah];rfl
   rw[this,cond_false];refine bs (aCa n x) ?_;cases hform:Ck x
   ·rw[if_pos rfl];rfl
   ·rw[if_neg aD]
    show (bif decide (x.Op< (5:Int)) then _ else _)=_;by_cases c2:x.Op<5
    ·rw[if_pos c2,decide_eq_true c2,cond_true];exact ih
    ·rw[if_neg c2,decide_eq_false c2,cond_false]
     refine bs (aCb hd hdb) ?_;cases hf:s.Defs.find? (fun d=>d.Name==x.Name) with
     |none=>rfl|some d=>
      dsimp only;have o:x.Op=5\/x.Op=6\/x.Op=7:=ah;have key:(bif bif bif x.Op==(6:Int) then d.Kind !=(1:Int) else false then true else bif x.Op==(7:Int) then d.Kind !=(2:Int) else false then some (.inr (((),(130:Int)))) else yZ n s l (((),(0:Int))))=(if (x.Op=6/\d.Kind≠1)\/(x.Op=7/\d.Kind≠2) then some (.inr (((),(130:Int)))) else yZ n s l (((),(0:Int)))):=by
       by_cases k1:d.Kind=1<;>by_cases k2:d.Kind=2<;>rcases o with o|o|o<;>simp[o,k1,k2]<;>first
        | (have h1:(d.Kind !=(1:Int))=true:=bne_iff_ne.2 ah;rw[h1];rfl)
        | (have h2:(d.Kind !=(2:Int))=true:=bne_iff_ne.2 ah;rw[h2];rfl)
      rw[show yZ n s l (((),(0:Int)))=_ from ih] at key⊢;refine key.trans ?_;by_cases c3:(x.Op=6/\d.Kind≠1)\/(x.Op=7/\d.Kind≠2)
      ·rw[if_pos c3,if_pos c3]
      ·rw[if_neg c3,if_neg c3]
theorem aCe {n:Nat}{s:aJ}{p:Pred}(hp:iB p<2^62)(hd:s.Defs.length<n)(hdb:s.Defs.length<2^62):
 Zs n (s,p)=some (if ((pre p).take 1000).length>64 then 2 else (Ef s ((pre p).take 1000)).getD 0):=by
 rw[aAl,Pred.lH];refine bs (aCd hp) ?_;show (bif decide ((((((pre p).take 1000).length:Nat):Int))> (64:Int)) then _ else _)=_;by_cases c:((pre p).take 1000).length>64
 ·rw[if_pos c,decide_eq_true ah];rfl
 ·rw[if_neg c,decide_eq_false ah,cond_false]
  refine bs (am2 n p) ?_;show ((DK p.re).bind _).bind _=_;rw[Pred.lH];have hlen:(pre p).length<=64:=by rw[j3] at c;omega
  rw[anX hp,Option.bind_some,anZ hd hdb,uM ah];cases Ef s (pre p)<;>rfl
theorem aCf {n:Nat}{s:aJ}{p:Pred}(hn:iB p<n)(hp:iB p<2^62)(hd:s.Defs.length<n)(hdb:s.Defs.length<2^62)(hk:1000<n):Zs n (s,p)=DV n (s,p):=by rw[aCe hp hd hdb,anU hn hp hd hdb hk]
end Sh
end
section
open Go aR
namespace TA
variable {α β γ:Type}
theorem mu {τ:Type}{L:Nat->τ->Option β}(Inv:τ->Prop)(X7:τ->Nat)(Post:β->Prop)(h:∀m p,Inv p->(∀p',Inv p'->X7 p'<X7 p->∃r,L m p'=some r/\Post r)->∃r,L (m+1) p=some r/\Post r):∀m p,Inv p->X7 p<m->∃r,L m p=some r/\Post r
 |0,p,_,hm=>ah|m+1,p,hp,hm=>h m p hp fun p' hp' hlt=>mu Inv X7 Post h m p' hp' ah
theorem wr {i:Int}(h0: -(2^62)<=i)(h:i<=2^62):wrap .i64 i=i:=zk
def Gt (d:α)(l:List α)(i:Int):α:=(l[i.toNat]?).getD d
theorem aCg (d:α){l:List α}{i:Int}(h0:0<=i)(h1:i<l.length):Gt d l i∈l:=by
 unfold Gt;have:i.toNat<l.length:=ah
 rw[jc this];exact jQ _
theorem X8 {l:List α}{i:Int}{x:α}:(dH l i x).length=l.length:=by unfold dH;exact List.length_set
structure ze (d:α)(a b:Int)(l l':List α):Prop where
 len:l'.length=l.length
 out:∀k,0<=k->(k<a\/b<=k)->Gt d l' k=Gt d l k
 perm:l'.Perm l
 all:∀φ:α->Prop,(∀k,a<=k->k<b->φ (Gt d l k))->∀k,a<=k->k<b->φ (Gt d l' k)
theorem ze.refl (d:α)(a b:Int)(l:List α):ze d a b l l:=⟨rfl,fun _ _ _=>rfl,List.Perm.refl _,fun _ h=>h⟩
theorem ze.trans {d:α}{a b:Int}{l l' l'':List α}(h:ze d a b l l')(k:ze d a b l' l''):ze d a b l l'':=
 ⟨k.len.trans h.len,fun i h0 h1=>(k.out i h0 h1).trans (h.out i h0 h1),k.perm.trans h.perm,fun φ hφ=>k.all φ (h.all φ hφ)⟩
theorem ze.wide {d:α}{a b a' b':Int}{l l':List α}(h:ze d a b l l')(ha:a'<=a)(hb:b<=b')(h0:0<=a'):ze d a' b' l l':=by
 refine⟨h.len,fun k k0 k1=>h.out k k0 ah,h.perm,fun φ hφ k k0 k1=>?_⟩;by_cases hk:a<=k/\k<b
 ·have:=h.all (fun x=>φ x) (fun i i0 i1=>hφ i ah ah) k hk.1 hk.2
  exact this
 ·rw[h.out k ah ah]
  exact hφ k k0 k1
structure Ord (lt:α->α->Prop):Prop where
 asym:∀x y,lt x y->¬lt y x
 neg:∀x y z,¬lt x y->¬lt y z->¬lt x z
theorem Ord.Eh {lt:α->α->Prop}(h:Ord lt)(x:α):¬lt x x:=fun k=>h.asym x x k k
theorem Ord.trans {lt:α->α->Prop}(h:Ord lt){x y z:α}(h1:lt x y)(h2:lt y z):lt x z:=by refine Classical.byContradiction fun k=>?_;exact h.neg x z y k (h.asym y z h2) h1
def X9 (Ok:α->Prop)(l:List α):Prop:=∀x∈l,Ok x
theorem ze.al {Ok:α->Prop}{d:α}{a b:Int}{l l':List α}(h:ze d a b l l')(k:X9 Ok l):X9 Ok l':=fun x hx=>k x (h.perm.mem_iff.1 hx)
theorem X9.at {Ok:α->Prop}{l:List α}(h:X9 Ok l)(d:α){i:Int}(h0:0<=i)(h1:i<l.length):Ok (Gt d l i):=h _ (aCg d h0 h1)
end TA
end
section
open Go Go.Proofs aR TA
namespace Sh
set_option maxRecDepth 100000
theorem ix {α:Type}{l:List α}{i:Nat}(h:i<l.length):aN l (i:Int)=some l[i]:=by unfold aN;rw[if_pos ⟨ah,ah⟩];simp[h]
theorem zf {i:Nat}(h:i<2^60):wrap .i64 ((i:Int)+1)=((i+1:Nat):Int):=Uc
theorem dT {p:Prop}[Decidable p](h:p):decide p=true:=decide_eq_true h
theorem qL {p:Prop}[Decidable p](h:¬p):decide p=false:=decide_eq_false h
theorem room {n b:Nat}(h:n*b<=2^47)(h':n<=2^47):dB n b=true:=by unfold dB;simp[h,h']
theorem Ei {β:Type}{a b:Int}{x y:Option β}(h:a<b):(bif decide (a<b) then x else y)=x:=by rw[dT h];rfl
theorem Ej {β:Type}{a b:Int}{x y:Option β}(h:¬a<b):(bif decide (a<b) then x else y)=y:=by rw[qL h];rfl
end Sh
end
