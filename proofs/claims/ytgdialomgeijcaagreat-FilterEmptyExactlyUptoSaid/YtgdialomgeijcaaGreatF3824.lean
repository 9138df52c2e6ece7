import Derived.IntWalk
import Derived.Test.YtgdialomgeijcaaGreatF3821
import Derived.Test.YtgdialomgeijcaaGreatF3823
set_option linter.all false
section
open Go Go.Proofs Aq
namespace Sh
theorem ahu {U:Type}(l:List U)(i:Nat):Fb l (i:Int)=l[i]? :=by
 unfold Fb;by_cases h:i<l.length
 .rw[if_pos ⟨by omega,by omega⟩];simp
 .rw[if_neg (by omega)];simp;omega
theorem Tg {U:Type}{l:List U}{i:Nat}{x:U}(h:l[i]? =some x):Fb l (i:Int)=some x:=by rw[ahu,h]
theorem Vt {U:Type}{l:List U}{i:Nat}{x:U}(h:l[i]? =some x):i<l.length:=by rw[Qq] at h;exact h.1
theorem Ub {U:Type}{l:List U}{i:Nat}{x:U}(h:l[i]? =some x):decide ((i:Int)< (l.length:Int))=true:=by have:=Vt h;simp;omega
theorem UK {U:Type}(l:List U):decide ((l.length:Int)< (l.length:Int))=false:=by simp
theorem TY {i:Nat}(h:i<2^62):IntKind.wrap .i64 ((i:Int)+(1:Int))=((i+1:Nat):Int):=by rw[IntKind.wrap_i64];omega
def foldI {U β Y:Type}(step:U->Nat->Y->(Y->β)->β)(fin:Y->β):Nat->List U->Y->β
 |_,[],s=>fin s|i,x::l,s=>step x i s fun s=>foldI step fin (i+1) l s
theorem amr {U β Y:Type}{L:Nat->Y->Int->Option β}{l:List U}(step:U->Nat->Y->(Y->Option β)->Option β)(fin:Y->Option β)(hs:∀m (i:Nat) x s,l[i]? =some x->L (m+1) s (i:Int)=step x i s fun s=>L m s ((i+1:Nat):Int))(hf:∀m s,L (m+1) s (l.length:Int)=fin s)(hc:∀x (i:Nat) s k k',(∀s,k s=k' s)->step x i s k=step x i s k'):∀(k i m:Nat)(s:Y),i+k=l.length->k<m->L m s (i:Int)=foldI step fin i (l.drop i) s:=by
 intro k;induction k with
 |zero=>
  intro i m s hi hm;obtain⟨m,rfl⟩:∃m',m=m'+1:=⟨m-1,by omega⟩;obtain rfl:i=l.length:=by omega
  rw[hf,List.drop_length];rfl
 |succ k ih=>
  intro i m s hi hm;obtain⟨m,rfl⟩:∃m',m=m'+1:=⟨m-1,by omega⟩;have hlt:i<l.length:=by omega
  have hx:l[i]? =some l[i]:=PX hlt;rw[hs m i l[i] s hx,Qd hlt];exact hc _ _ _ _ _ fun s=>ih (i+1) m s (by omega) (by omega)
theorem acy {U β:Type}{L:Nat->Int->Option β}{l:List U}(step:U->Nat->Option β->Option β)(fin:Option β)(hs:∀m (i:Nat) x,l[i]? =some x->L (m+1) (i:Int)=step x i (L m ((i+1:Nat):Int)))(hf:∀m,L (m+1) (l.length:Int)=fin){m:Nat}(hm:l.length<m):
 L m (0:Int)=foldI (Y:=Unit) (fun x i _ k=>step x i (k ())) (fun _=>fin) 0 l ():=by
 have:=amr (L:=fun m (_:Unit) i=>L m i) (l:=l) (fun x i _ k=>step x i (k ())) (fun _=>fin) (fun m i x _ h=>hs m i x h) (fun m _=>hf m) (fun x i s k k' h=>by rw[h]) l.length 0 m () (by omega) hm;simpa using this
theorem acz {U:Type}{γ:Type}(p:U->Bool)(f:Nat->γ)(z:γ):∀(l:List U)(i:Nat),foldI (Y:=Unit) (fun x i _ (k:Unit->Option γ)=>bif p x then some (f i) else k ()) (fun _=>some z) i l ()=some (match l.findIdx? p with|some j=>f (i+j)|none=>z)
 | [],i=>rfl|x::l,i=>by
  show (bif p x then some (f i) else foldI _ _ (i+1) l ())=_;rw[List.findIdx?_cons];cases hp:p x
  .rw[cond_false,acz p f z l (i+1)];simp only[PE,if_false];cases l.findIdx? p with
   |none=>rfl|some j=>simp only[Option.map_some];rw[Nat.add_right_comm,Qv]
  .simp
theorem afm {U:Type}{c:Bool}{o:Option U}{d:U}(h:c=true->∃x,o=some x):∃x,Uh c o d=some x:=by
 cases c
 .exact⟨d,rfl⟩
 .exact h rfl
theorem ams {U γ:Type}(p:U->Bool)(f z:γ):∀(l:List U)(i:Nat),foldI (Y:=Unit) (fun x _ _ (k:Unit->Option γ)=>bif p x then some f else k ()) (fun _=>some z) i l ()=some (bif l.any p then f else z)
 | [],i=>rfl|x::l,i=>by
  show (bif p x then some f else foldI _ _ (i+1) l ())=_;rw[List.any_cons];cases p x
  .exact ams p f z l (i+1)
  .rfl
theorem bs {U β:Type}{o:Option U}{a:U}{f:U->Option β}{r:Option β}(h:o=some a)(k:f a=r):o.bind f=r:=by rw[h];exact k
theorem adD (p:Pred):1<=RP p:=by cases p;simp[RP]
theorem ahv (p:Pred):RP p=WM p.Rs+1:=by cases p;simp[RP]
theorem afn:∀l:List Pred,l.length<=WM l
 | []=>by simp|p::l=>by have:=afn l;have:=adD p;simp[WM];omega
theorem afo:∀{l:List Pred}{p:Pred},p∈l->RP p<=WM l
 | [],_,h=>by simp at h|q::l,p,h=>by
  rcases PG.1 h with rfl|h
  .simp[WM]
  .have:=afo h;simp[WM];omega
theorem amt (l:List Attr):∀ps:List Pred,aaV l ps=ps.all (SY l)
 | []=>rfl|p::ps=>by rw[aaV,amt l ps,List.all_cons]
theorem amu (l:List Attr):∀ps:List Pred,anyS l ps=ps.any (SY l)
 | []=>rfl|p::ps=>by rw[anyS,amu l ps,List.any_cons]
theorem afp {U:Type}(p:U->Bool):∀l:List U,(match l.findIdx? p with|some j=>l[j]? |none=>none)=l.find? p
 | []=>rfl|a::l=>by
  rw[List.findIdx?_cons,List.find?_cons];cases hp:p a
  .have:=afp p l;simp only[PE,if_false];cases h:l.findIdx? p with
   |none=>rw[h] at this;simpa using this|some j=>rw[h] at this;simpa using this
  .simp
theorem arB {n:Nat}{l:List Attr}{x:List UInt8}(h:l.length<n)(hb:l.length<2^62):ZY n (l,x)=some (match TW l x with|some a=>(a,true)|none=>(⟨[],0,0,[]⟩,false)):=by
 have:=acy (L:=fun m i=>adz n l x m i) (l:=l) (fun d i r=>bif d.Name==x then some (.inr (i:Int)) else r) (some (.inl ()))
  (fun m i d hd=>by have hlt:=Vt hd;rw[aml,Ub hd,Tg hd,TY (by omega)];simp only[cond_true,Option.bind_some,ark];rfl)
  (fun m=>by rw[aml,UK];rfl) h
 rw[arn,arl,this,acz (fun d:Attr=>d.Name==x) (fun i=>(Sum.inr (i:Int):PUnit⊕Int)) (.inl ())];have hg:=afp (fun d:Attr=>d.Name==x) l;unfold TW;rw[<-hg];cases hf:l.findIdx? (fun d=>d.Name==x) with
 |none=>rfl|some j=>
  obtain⟨hj,_,_⟩:=List.findIdx?_eq_some_iff_getElem.1 hf;simp only[Option.bind_some,Sum.elim_inr,Qi];have e:decide (((j:Nat):Int)< (0:Int))=false:=by simp
  show (bif decide (((j:Nat):Int)< (0:Int)) then (some ((⟨[],(0:Int),(0:Int),[]⟩:Attr),false):Option (Attr×Bool)) else (Fb l ((j:Nat):Int)).bind fun r4=>some (r4,true))=_;rw[e,cond_false,ahu,PX hj];rfl
theorem arC {n g:Nat}{l:List Attr}{p:Pred}(hH:∀x∈p.Rs,YJ n g (l,x)=some (SY l x))(hn:p.Rs.length<n)(hb:p.Rs.length<2^62):adt n (g+1) (l,p)=some (aaV l p.Rs):=by
 have:=acy (L:=fun m i=>adA n g l p m i) (l:=p.Rs) (fun x _ r=>bif !(SY l x) then some (.inr false) else r) (some (.inl ()))
  (fun m i x hx=>by have hlt:=Vt hx;rw[amm,Ub hx,Tg hx,TY (by omega)];simp only[cond_true,Option.bind_some,Pred.TG];rw[hH x (Qk hx)];rfl)
  (fun m=>by rw[amm,UK];rfl) hn
 rw[aru,this,ams (fun x=>!(SY l x)) (Sum.inr false:PUnit⊕Bool) (.inl ())];rw[amt];cases h:p.Rs.any fun x=>!(SY l x)
 .have:p.Rs.all (SY l)=true:=by rw[P7];rw[List.any_eq_false] at h;intro x hx;have:=h x hx;simpa using this
  rw[this];rfl
 .have:p.Rs.all (SY l)=false:=by rw[List.all_eq_false];rw[List.any_eq_true] at h;obtain⟨x,hx,h2⟩:=h;exact⟨x,hx,by simpa using h2⟩
  rw[this];rfl
theorem amv {n g:Nat}{l:List Attr}{ps:List Pred}(hH:∀x∈ps,YJ n g (l,x)=some (SY l x))(hn:ps.length<n)(hb:ps.length<2^62):adu n (g+2) (ps,(l,()))=some (anyS l ps):=by
 have:=acy (L:=fun m i=>adB n g ps l m i) (l:=ps) (fun x i r=>bif SY l x then some (.inr (i:Int)) else r) (some (.inl ()))
  (fun m i x hx=>by have hlt:=Vt hx;rw[amo,Ub hx,Tg hx,TY (by omega)];simp only[cond_true,Option.bind_some,Pred.TG];rw[hH x (Qk hx)];rfl)
  (fun m=>by rw[amo,UK];rfl) hn
 rw[arv,arw,this,acz (SY l) (fun i=>(Sum.inr (i:Int):PUnit⊕Int)) (.inl ())];rw[amu];cases hf:ps.findIdx? (SY l) with
 |none=>
  rw[List.findIdx?_eq_none_iff] at hf;have:ps.any (SY l)=false:=by rw[List.any_eq_false];intro y hy;simpa using hf y hy
  rw[this];rfl
 |some j=>
  obtain⟨hj,h2,_⟩:=List.findIdx?_eq_some_iff_getElem.1 hf;have:ps.any (SY l)=true:=by rw[List.any_eq_true];exact⟨ps[j],Qw hj,h2⟩
  rw[this];show some (decide (((0+j:Nat):Int)>=(0:Int)))=some true;rw[decide_eq_true (by omega)]
theorem amw {n:Nat}{l:List Attr}(h:l.length<n)(hb:l.length<2^62):∀(k g:Nat)(p:Pred),RP p<=k->6*RP p<=g->RP p<n->RP p<2^62->YJ n g (l,p)=some (SY l p)
 |0,g,p,hk,_,_,_=>by have:=adD p;omega|k+1,g,p,hk,hg,hn,hp=>by
  have hs:=ahv p;have hlen:=afn p.Rs;have hpos:=adD p;obtain⟨g,rfl⟩:∃g',g=g'+6:=⟨g-6,by omega⟩;have hsub:∀g',g<=g'->∀x∈p.Rs,YJ n g' (l,x)=some (SY l x):=fun g' hg' x hx=>by have:=afo hx;exact amw h hb k g' x (by omega) (by omega) (by omega) (by omega)
  have hand:=arC (n:=n) (g:=g+4) (l:=l) (p:=p) (hsub _ (by omega)) (by omega) (by omega);have hor:acw n (g+5) (l,p)=some (anyS l p.Rs):=by rw[amn,amv (n:=n) (g:=g+2) (hsub _ (by omega)) (by omega) (by omega)];rfl
  have hnot:adv n (g+5) (l,p)=some (!anyS l p.Rs):=by rw[arx,Pred.TG,amn,amv (n:=n) (g:=g+1) (hsub _ (by omega)) (by omega) (by omega)];rfl
  have hget:=arB (n:=n) (l:=l) (x:=p.Name) h hb;have hhas:Xm n (l,p)=some (TW l p.Name).isSome:=by rw[aro,hget];cases TW l p.Name<;>rfl
  have arD:Xn n (l,p)=some (match TW l p.Name with|some a=>a.Kind==(1:Int)&& decide (a.N>=p.N)&& decide (a.N<=p.M)|none=>false):=by
   rw[arp,hget];cases TW l p.Name with
   |none=>rfl|some a=>change some _=some _;congr 1;change (bif bif bif true then a.Kind==(1:Int) else false then decide (a.N>=p.N) else false then decide (a.N<=p.M) else false)=(a.Kind==(1:Int)&& decide (a.N>=p.N)&& decide (a.N<=p.M));cases a.Kind==(1:Int)<;>cases decide (a.N>=p.N)<;>cases decide (a.N<=p.M)<;>rfl
  have hword:Xo n (l,p)=some (match TW l p.Name with|some a=>a.Kind==(2:Int)&& a.S==p.S|none=>false):=by
   rw[arq,hget];cases TW l p.Name with
   |none=>rfl|some a=>change some _=some _;congr 1;change (bif bif true then a.Kind==(2:Int) else false then a.S==p.S else false)=(a.Kind==(2:Int)&& a.S==p.S);cases a.Kind==(2:Int)<;>cases a.S==p.S<;>rfl
  have hall:Xl n (l,p)=some true:=by rw[arj]
  rw[ars];simp only[Pred.TG];rw[hall,hand,hor,hnot,hhas,arD,hword];obtain⟨op,name,a,b,s,subs⟩:=p;unfold SY;dsimp only;by_cases o1:op=1
  · (simp[o1];try rfl)
  .have b1:(op==(1:Int))=false:=by simpa using o1
   rw[b1,if_neg o1];by_cases o2:op=2
   · (simp[o2];try rfl)
   .have b2:(op==(2:Int))=false:=(by simpa using o2);rw[b2,if_neg o2];by_cases o3:op=3
    · (simp[o3];try rfl)
    .have b3:(op==(3:Int))=false:=(by simpa using o3);rw[b3,if_neg o3];by_cases o4:op=4
     · (simp[o4];try rfl)
     .have b4:(op==(4:Int))=false:=(by simpa using o4);rw[b4,if_neg o4];by_cases o5:op=5
      · (simp[o5];try rfl)
      .have b5:(op==(5:Int))=false:=(by simpa using o5);rw[b5,if_neg o5];by_cases o6:op=6
       · (simp[o6];try rfl)
       .have b6:(op==(6:Int))=false:=(by simpa using o6);rw[b6,if_neg o6];by_cases o7:op=7
        · (simp[o7];try rfl)
        .have b7:(op==(7:Int))=false:=(by simpa using o7);rw[b7,if_neg o7];rfl
theorem ahw {n:Nat}{l:List Attr}{p:Pred}(h:l.length<n)(hb:l.length<2^62)(hp:6*RP p<n)(hq:RP p<2^62):ZR n (p,l)=some (SY l p):=by
 have e:Zc n (l,p)=YJ n n (l,p):=by unfold Zc;rfl
 rw[arz,Pred.TG,e,amw h hb (RP p) n p (mF _) (by omega) (by omega) hq];rfl
end Sh
end
section
open Go Aq
namespace Pq
variable {U β γ:Type}
theorem tG {c:Bool}{o:Option U}{P:U->Prop}(h:c=true)(k:∃r,o=some r/\P r):∃r,(bif c then o else none)=some r/\P r:=by rw[h];exact k
theorem tI {i:Int}{n:Nat}{o:Option U}{P:U->Prop}(h0:0<=i)(h1:i<n)(k:∃r,o=some r/\P r):∃r,(bif decide (0<=i/\i< ((n:Nat):Int)) then o else none)=some r/\P r:=tG (decide_eq_true ⟨h0,h1⟩) k
theorem tD {p:Prop}[Decidable p]{a b:Option U}{P:U->Prop}(ha:p->∃r,a=some r/\P r)(hb:¬p->∃r,b=some r/\P r):∃r,(bif decide p then a else b)=some r/\P r:=by
 by_cases h:p
 .rw[decide_eq_true h];exact ha h
 .rw[decide_eq_false h];exact hb h
theorem tN {p:Prop}[Decidable p]{a b:Option U}{P:U->Prop}(ha:¬p->∃r,a=some r/\P r)(hb:p->∃r,b=some r/\P r):∃r,(bif !decide p then a else b)=some r/\P r:=by
 by_cases h:p
 .rw[decide_eq_true h];exact hb h
 .rw[decide_eq_false h];exact ha h
theorem tC {c:Bool}{a b:Option U}{P:U->Prop}(ha:c=true->∃r,a=some r/\P r)(hb:c=false->∃r,b=some r/\P r):∃r,(bif c then a else b)=some r/\P r:=by
 cases c
 .exact hb rfl
 .exact ha rfl
theorem tS {a:U}{P:U->Prop}(h:P a):∃r,some a=some r/\P r:=⟨a,rfl,h⟩
theorem tB {o:Option U}{f:U->Option β}{Q:U->Prop}{P:β->Prop}(h:∃x,o=some x/\Q x)(k:∀x,Q x->∃r,f x=some r/\P r):∃r,o.bind f=some r/\P r:=by obtain⟨x,e,q⟩:=h;rw[e];exact k x q
theorem tE {o:Option U}{f:U->Option β}{x:U}{P:β->Prop}(h:o=some x)(k:∃r,f x=some r/\P r):∃r,o.bind f=some r/\P r:=by rw[h];exact k
theorem tW {o:Option U}{P Q:U->Prop}(h:∃r,o=some r/\Q r)(k:∀r,Q r->P r):∃r,o=some r/\P r:=by obtain⟨x,e,q⟩:=h;exact⟨x,e,k x q⟩
theorem mu {τ:Type}{L:Nat->τ->Option β}(Inv:τ->Prop)(tu:τ->Nat)(Post:β->Prop)(h:∀m p,Inv p->(∀p',Inv p'->tu p'<tu p->∃r,L m p'=some r/\Post r)->∃r,L (m+1) p=some r/\Post r):∀m p,Inv p->tu p<m->∃r,L m p=some r/\Post r
 |0,p,_,hm=>by omega|m+1,p,hp,hm=>h m p hp fun p' hp' hlt=>mu Inv tu Post h m p' hp' (by omega)
theorem wr {i:Int}(h0: -(2^62)<=i)(h:i<=2^62):IntKind.wrap .i64 i=i:=by rw[IntKind.wrap_i64];omega
def gI (d:U)(l:List U)(i:Int):U:=(l[i.toNat]?).getD d
theorem aB (d:U){l:List U}{i:Int}(h0:0<=i)(h1:i<l.length):Fb l i=some (gI d l i):=by
 unfold Fb gI;rw[if_pos ⟨h0,h1⟩];have:i.toNat<l.length:=by omega
 rw[PX this];rfl
theorem OT (d:U){l:List U}{i:Int}(h0:0<=i)(h1:i<l.length):gI d l i∈l:=by
 unfold gI;have:i.toNat<l.length:=by omega
 rw[PX this];exact Qw _
theorem ay {l:List U}{i:Int}{x:U}:(Rc l i x).length=l.length:=by unfold Rc;exact List.length_set
theorem tF {d:U}{l:List U}{i k:Int}{x:U}(h0:0<=i)(h1:i<l.length)(hk:0<=k):gI d (Rc l i x) k=if k=i then x else gI d l k:=by
 unfold gI Rc;rw[List.getElem?_set];by_cases e:k=i
 .subst e;rw[if_pos rfl,if_pos rfl,if_pos (by omega)];rfl
 .rw[if_neg e,if_neg (by omega)]
def swp (d:U)(l:List U)(i j:Int):List U:=Rc (Rc l i (gI d l j)) j (gI d l i)
theorem aQ {d:U}{l:List U}{i j:Int}:(swp d l i j).length=l.length:=by unfold swp;rw[ay,ay]
theorem dO {d:U}{l:List U}{i j k:Int}(h0:0<=i)(h1:i<l.length)(h2:0<=j)(h3:j<l.length)(hk:0<=k):gI d (swp d l i j) k=if k=j then gI d l i else if k=i then gI d l j else gI d l k:=by unfold swp;rw[tF h2 (by rw[ay];exact h3) hk,tF h0 h1 hk]
theorem OU {d:U}{l:List U}{i j:Int}(h0:0<=i)(h1:i<l.length)(h2:0<=j)(h3:j<l.length):(swp d l i j).Perm l:=by
 have a1:i.toNat<l.toArray.size:=by simp;omega
 have a2:j.toNat<l.toArray.size:=by simp;omega
 have:=(Array.swap_perm (xs:=l.toArray) a1 a2).toList;have e:(l.toArray.swap i.toNat j.toNat a1 a2).toList=swp d l i j:=by unfold swp Rc gI;rw[Array.toList_swap];simp only[List.size_toArray] at a1 a2;rw[PX a1,PX a2];simp
 rw[e] at this;exact this
structure Rp (d:U)(a b:Int)(l l':List U):Prop where
 len:l'.length=l.length
 out:∀k,0<=k->(k<a\/b<=k)->gI d l' k=gI d l k
 perm:l'.Perm l
 all:∀φ:U->Prop,(∀k,a<=k->k<b->φ (gI d l k))->∀k,a<=k->k<b->φ (gI d l' k)
theorem Rp.refl (d:U)(a b:Int)(l:List U):Rp d a b l l:=⟨rfl,fun _ _ _=>rfl,List.Perm.refl _,fun _ h=>h⟩
theorem Rp.trans {d:U}{a b:Int}{l l' l'':List U}(h:Rp d a b l l')(k:Rp d a b l' l''):Rp d a b l l'':=
 ⟨k.len.trans h.len,fun i h0 h1=>(k.out i h0 h1).trans (h.out i h0 h1),k.perm.trans h.perm,fun φ hφ=>k.all φ (h.all φ hφ)⟩
theorem Rp.swp {d:U}{a b i j:Int}{l l':List U}(h:Rp d a b l l')(ha:0<=a)(hb:b<=l.length)(i0:a<=i)(i1:i<b)(j0:a<=j)(j1:j<b):Rp d a b l (swp d l' i j):=by
 have hl:=h.len;refine h.trans ⟨aQ,fun k k0 k1=>?_,OU (by omega) (by omega) (by omega) (by omega),fun φ hφ k k0 k1=>?_⟩
 .rw[dO (by omega) (by omega) (by omega) (by omega) k0,if_neg (by omega),if_neg (by omega)]
 .rw[dO (by omega) (by omega) (by omega) (by omega) (by omega)];split
  .exact hφ i i0 i1
  .split
   .exact hφ j j0 j1
   .exact hφ k k0 k1
theorem Rp.wide {d:U}{a b a' b':Int}{l l':List U}(h:Rp d a b l l')(ha:a'<=a)(hb:b<=b')(h0:0<=a'):Rp d a' b' l l':=by
 refine⟨h.len,fun k k0 k1=>h.out k k0 (by omega),h.perm,fun φ hφ k k0 k1=>?_⟩;by_cases hk:a<=k/\k<b
 .have:=h.all (fun x=>φ x) (fun i i0 i1=>hφ i (by omega) (by omega)) k hk.1 hk.2;exact this
 .rw[h.out k (by omega) (by omega)];exact hφ k k0 k1
structure Ord (lt:U->U->Prop):Prop where
 asym:∀x y,lt x y->¬lt y x
 neg:∀x y z,¬lt x y->¬lt y z->¬lt x z
theorem Ord.gK {lt:U->U->Prop}(h:Ord lt)(x:U):¬lt x x:=fun k=>h.asym x x k k
theorem Ord.trans {lt:U->U->Prop}(h:Ord lt){x y z:U}(h1:lt x y)(h2:lt y z):lt x z:=by refine Classical.byContradiction fun k=>?_;exact h.neg x z y k (h.asym y z h2) h1
def Sd (lt:U->U->Prop)(d:U)(a b:Int)(l:List U):Prop:=∀i j,a<=i->i<j->j<b->¬lt (gI d l j) (gI d l i)
theorem Sd.OV {lt:U->U->Prop}(ho:Ord lt){d:U}{a b:Int}{l:List U}(h:∀i,a<i->i<b->¬lt (gI d l i) (gI d l (i-1))):Sd lt d a b l:=by
 have key:∀(k:Nat)(i j:Int),a<=i->j=i+1+k->j<b->¬lt (gI d l j) (gI d l i):=by
  intro k;induction k with
  |zero=>
   intro i j h0 h1 h2;have:=h j (by omega) h2
   rwa[show j-1=i by omega] at this
  |succ k ih=>intro i j h0 h1 h2;exact ho.neg _ _ _ (h j (by omega) h2) (ih i (j-1) h0 (by omega) (by omega))
 intro i j h0 h1 h2;exact key (j-i-1).toNat i j h0 (by omega) h2
theorem Sd.pw {lt:U->U->Prop}{d:U}{l:List U}(h:Sd lt d 0 l.length l):l.Pairwise fun x y=>¬lt y x:=by rw[List.pairwise_iff_getElem];intro i j hi hj hij;have:=h (i:Int) (j:Int) (by omega) (by omega) (by omega);unfold gI at this;rw[Int.toNat_natCast,Int.toNat_natCast,PX hi,PX hj] at this;exact this
def Al (Ok:U->Prop)(l:List U):Prop:=∀x∈l,Ok x
theorem Rp.al {Ok:U->Prop}{d:U}{a b:Int}{l l':List U}(h:Rp d a b l l')(k:Al Ok l):Al Ok l':=fun x hx=>k x (h.perm.mem_iff.1 hx)
theorem Al.at {Ok:U->Prop}{l:List U}(h:Al Ok l)(d:U){i:Int}(h0:0<=i)(h1:i<l.length):Ok (gI d l i):=h _ (OT d h0 h1)
def YP (Ok:U->Prop)(lt:U->U->Prop)(K:{β:Type}->U->U->(Bool->Option β)->Option β):Prop:=∀a b,Ok a->Ok b->∃r:Bool,(r=true↔lt a b)/\∀{β:Type}(f:Bool->Option β),K a b f=f r
theorem tM {β:Type}{Ok:U->Prop}{lt:U->U->Prop}{K:{β:Type}->U->U->(Bool->Option β)->Option β}(h:YP Ok lt K){a b:U}{f:Bool->Option β}{P:β->Prop}(ha:Ok a)(hb:Ok b)(k:∀r:Bool,(r=true↔lt a b)->∃s,f (decide (r=true))=some s/\P s):∃s,K a b f=some s/\P s:=by obtain⟨r,h1,h2⟩:=h a b ha hb;have:=k r h1;rw[Bool.decide_eq_true] at this;have e:K a b f=f r:=h2 f;rw[e];exact this
end Pq
end
section
open Go Go.Proofs Aq Pq
namespace Sh
set_option maxRecDepth 100000
def VP:Int->List Nat->Int
 |c,[]=>c|c,k::ks=>if c*k>4096 then 4097 else VP (c*k) ks
theorem amx {c:Int}{k:Nat}(h0:0<=c)(h1:c<=4096)(hk:k<2^30):0<=c*k/\c*k<=4096*2^30:=by have a:c*(k:Int)<=4096*(k:Int):=Int.mul_le_mul_of_nonneg_right h1 (by omega);have b:0<=c*(k:Int):=Int.mul_nonneg h0 (by omega);omega
theorem arE {n:Nat}{t:List (List Q6)}(hb:t.length<2^62)(ht:∀l∈t,l.length<2^30):∀(k i m:Nat)(c:Int),i+k=t.length->k<m->0<=c->c<=4096->∃r,adC n t m (c,(i:Int))=some r/\Sum.elim id id r=VP c ((t.drop i).map List.length):=by
 intro k;induction k with
 |zero=>
  intro i m c hi hm _ _;obtain⟨m,rfl⟩:∃m',m=m'+1:=⟨m-1,by omega⟩;obtain rfl:i=t.length:=by omega
  rw[amq,UK,cond_false,List.drop_length];exact⟨_,rfl,rfl⟩
 |succ k ih=>
  intro i m c hi hm h0 h1;obtain⟨m,rfl⟩:∃m',m=m'+1:=⟨m-1,by omega⟩;have hlt:i<t.length:=by omega
  have hx:t[i]? =some t[i]:=PX hlt;obtain⟨m1,m2⟩:=amx h0 h1 (ht _ (Qk hx));rw[amq,Ub hx,cond_true,Qd hlt,TY (by omega),PO];refine tE (Tg hx) ?_;have hw:IntKind.wrap .i64 (c*((t[i].length:Nat):Int))=c*((t[i].length:Nat):Int):=by rw[IntKind.wrap_i64];omega
  rw[hw];unfold VP;by_cases hc:c*((t[i].length:Nat):Int)>4096
  .rw[decide_eq_true hc,cond_true,if_pos hc];exact⟨_,rfl,rfl⟩
  .rw[decide_eq_false hc,cond_false,if_neg hc];exact ih (i+1) m _ (by omega) (by omega) m1 (by omega)
theorem amy {n:Nat}{t:List (List Q6)}(hb:t.length<2^62)(hn:t.length<n)(ht:∀l∈t,l.length<2^30):ZG n t=some (VP 1 (t.map List.length)):=by obtain⟨r,h1,h2⟩:=arE (n:=n) hb ht t.length 0 n 1 (by omega) hn (by omega) (by omega);rw[arA];refine bs h1 ?_;rw[Qz] at h2;rw[<-h2];cases r<;>rfl
theorem amA:∀{t:List (List Q6)},(∀c∈t,0<c.length)->0<Rv t
 | [],_=>Nat.one_pos|c::cs,h=>Nat.mul_pos (h c (PI ..)) (amA fun x hx=>h x (PK _ hx))
theorem amB:∀(t:List (List Q6))(c:Nat),(∀x∈t,0<x.length)->c*Rv t<=4096->0<c->VP (c:Int) (t.map List.length)=((c*Rv t:Nat):Int)
 | [],c,_,_,_=>by unfold VP Rv;simp|x::t,c,h,hc,h0=>by
  have hx:=h x (PI ..);have hp:Rv (x::t)=x.length*Rv t:=rfl;have hpos:0<Rv t:=amA fun y hy=>h y (PK _ hy);rw[hp,<-Nat.mul_assoc] at hc;have hle:c*x.length<=4096:=PD (Nat.le_mul_of_pos_right _ hpos) hc;rw[PO];unfold VP
  rw[if_neg (by have:((c*x.length:Nat):Int)<=4096:=by omega
                rw[Int.natCast_mul] at this;omega),<-Int.natCast_mul,amB t (c*x.length) (fun y hy=>h y (PK _ hy)) hc (Nat.mul_pos h0 hx),hp,Nat.mul_assoc]
end Sh
end
section
namespace Aq
open Go Go.RowKit
theorem arF {E:Env}{call:FuncId->List V->Nat->qd->Option (V×qd)}(hS:kY E call){f:FuncId}{args:List V}{v v0:V}{Y1:qd}(hc:call f args 1 qd.init=some (v0,Y1))(h:Rf 20 Y1 v0=some v):Un E f args v:=by
 obtain⟨_,hb,hs⟩:=hS _ _ _ _ _ _ hc;refine⟨hb,fun I IM w Rt hl hr=>?_⟩;have hr':RelA (Ra.lend I IM) qd.init.top w args Rt:=hr;refine(hs none w.heap.size (Ra.lend I IM) w Rt (uU hl) (mF _) (fun s hs=>hs.elim) hr').mono ?_;intro e w' hp;cases e with
 |returned c=>
  obtain⟨K1,r1,s1,_,st⟩:=hp;refine⟨st.below,?_⟩;have:=qQ (T':=fun _=>0) s1 20 v0 v c r1 h;refine this.mQ (fun b o hi=>⟨⟨?_,hi.2⟩,rfl⟩) (fun b hi=>⟨⟨?_,hi.2⟩,rfl⟩)
  .rcases hi.1 with h1|h1
   .exact st.nI b o h1
   .exact .inr h1
  .rcases hi.1 with h1|h1
   .exact st.fU b h1
   .exact .inr h1
 |panicked ch=>exact hp.elim|outgrown=>exact hp.elim
end Aq
end
section
open Go Go.Proofs Aq
namespace Sh
set_option maxRecDepth 100000
theorem amC:∀{t:List (List Q6)},(∀c∈t,0<c.length)->∀c∈t,c.length<=Rv t
 | [],_,c,h=>by cases h|x::t,h,c,hc=>by
  have hp:Rv (x::t)=x.length*Rv t:=rfl;have h1:=agY (t:=t) fun y hy=>h y (PK _ hy);have h2:=h x (PI ..);rw[hp];rcases PG.1 hc with rfl|hc
  .exact Nat.le_mul_of_pos_right _ h1
  .exact PD (amC (fun y hy=>h y (PK _ hy)) c hc) (Nat.le_mul_of_pos_left _ h2)
theorem arG {t:List (List Q6)}{p:Pred}(h1:t.length<2^20)(h2:∀c∈t,0<c.length)(h3:Rv t<=4096)(h4:RP p<2^62):Un E 58 [Sb t,Pred.v p] (ado t p):=by
 have hlen:∀c∈t,c.length<=4096:=fun c hc=>PD (amC h2 c hc) h3;have hc:Pure E 55 [Sb t] (.int .i64 (Rv t:Nat)):=by have h:=amk (t.length+1) t (VP 1 (t.map List.length)) (amy (by omega) (by omega) (fun l hl=>by have:=hlen l hl;omega));have e:=amB t 1 h2 (by omega) (by omega);rw[show ((1:Nat):Int)=1 from rfl,Nat.one_mul] at e;rw[e] at h;exact h
 have hH:∀k,k<Rv t->Pure E 12 [Pred.v p,lv Attr.v (R4 k (Rv t) t)] (.bool (SY (R4 k (Rv t) t) p)):=fun k _=>by have hl:=agX t k (Rv t);exact amc (6*RP p+t.length+1) (p,R4 k (Rv t) t) _ (ahw (by omega) (by omega) (by omega) h4)
 obtain⟨m,v0,Y1,e1,e2⟩:=aqv (N:=Rv t) (p:=p) (hs:=fun l=>SY l p) h1 h2 rfl h3 hlen hc hH;exact arF (adk (m:=m) alz) e1 e2
theorem arH (p:Lv R.T [.d (.slice (.slice (.st 7))),.d (.st 0)])(x:Lv R.T [.d (.slice (.st 3)),.d .bool])(h:abD p.1 p.2=some x):Pure E 58 (Ri R [.d (.slice (.slice (.st 7))),.d (.st 0)] p) (SA (Ri R [.d (.slice (.st 3)),.d .bool] x)):=by
 obtain⟨t,p⟩:=p;have h:abD t p=some x:=h;unfold abD at h;split at h
 .rename_i hc;cases h;obtain⟨c1,c2,c3,c4⟩:=hc;refine⟨0,?_⟩;show firstT [Sb t,Pred.v p]=some (ado t p);exact apL (arG c1 c2 c3 c4)
 .cases h
end Sh
end
