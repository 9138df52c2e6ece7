import Derived.Test.YthadiihdjhakdaaGreatF2221
set_option linter.all false
open Go.IntKind (wrap)
section
open Go Go.Proofs aR TA
namespace Sh
set_option maxRecDepth 100000
def o8 (a:List Int):Bool:=a.all (fun x=>decide (-1000<=x)&& decide (x<=1000))&& (decide (1<=a.length)&& decide (a.length<=32))
def vM (a:List Int):Prop:=(∀x∈a, -1000<=x/\x<=1000)/\1<=a.length/\a.length<=32
theorem an0 (a:List Int):o8 a=true↔vM a:=by unfold o8 vM;simp
abbrev AQ (x:Int):Int:=imax x (-x)
def vN (m s x:Int):Int:=bif decide (m=1) then s+AQ x else bif decide (m=2) then s+x*x else imax s (AQ x)
def Mv (m:Int)(d:List Int):Int:=d.foldl (vN m) 0
def kS (a b:List Int):List Int:=List.zipWith (· - ·) a b
def zU (m:Int)(a b:List Int):Int:=Mv m (kS a b)
theorem TB (x:Int):AQ x=(x.natAbs:Int):=by unfold AQ imax;split<;>omega
theorem an1 {m s x B:Int}(h0:0<=s)(hs:s<=B)(hx: -2000<=x/\x<=2000):0<=vN m s x/\vN m s x<=B+4000000:=by
 have hq:0<=x*x/\x*x<=4000000:=by
  rcases Int.le_total 0 x with h|h
  ·have:=Int.mul_le_mul hx.2 hx.2 h ah;exact⟨Int.mul_nonneg h h,ah⟩
  ·have h2:=Int.mul_le_mul (show-x<=2000 by omega) (show-x<=2000 by omega) ah (by omega:(0:Int)<=2000)
   rw[Int.neg_mul_neg] at h2;have h3:=Int.mul_nonneg (show 0<= -x by omega) (show 0<= -x by omega);rw[Int.neg_mul_neg] at h3;exact⟨h3,ah⟩
 have ha:=TB x;unfold vN;cases decide (m=1)<;>cases decide (m=2)<;>simp only[cond_true,cond_false]<;>(try unfold imax)<;>(try split)<;>omega
theorem ads:∀{a b:List Int},(∀x∈a, -1000<=x/\x<=1000)->(∀x∈b, -1000<=x/\x<=1000)->∀x∈kS a b, -2000<=x/\x<=2000
 | [],_,_,_,x,h=>bL|_::_,[],_,_,x,h=>bL|a::al,b::bl,ha,hb,x,h=>by
  have h1:=ha a (iw ..);have h2:=hb b (iw ..);rcases fV.1 h with h|h
  ·have h:x=a-b:=h
   subst h;omega
  ·exact ads (fun y hy=>ha y (iZ _ hy)) (fun y hy=>hb y (iZ _ hy)) x h
theorem aCh {α:Type}(l:List α)(i:Nat)(x:α):dH l (i:Int) x=l.set i x:=by unfold dH;rw[Int.toNat_natCast]
theorem aCi {s a t:List Int}{i:Nat}(hs:s.length=a.length)(hi:i<a.length)(hi':i<s.length)(ht:t=s.take i++a.drop i):t.set i s[i]=s.take (i+1)++a.drop (i+1):=by
 subst ht;have hlen:(s.take i).length=i:=Cu
 rw[List.set_append_right _ _ ah,hlen,Nat.sub_self,uJ hi,List.set_cons_zero,List.take_succ_eq_append_getElem hi',jR];rfl
theorem aCj {n:Nat}{a b:List Int}(hn:100<n)(ha:vM a)(hb:vM b)(hl:a.length=b.length):ZS n (a,b)=some (kS a b):=by
 have h1:=ha.2.1;have h2:=ha.2.2;rw[aAJ,aAI];have e0:(!List.isEmpty a)=true:=by cases a with
  |nil=>exact absurd h1 aX|cons=>rfl
 rw[e0,cond_true,room ah ah,cond_true];refine bs rfl ?_;have key:∀k (i m:Nat) (t:List Int),i+k=a.length->k<m->t=(kS a b).take i++a.drop i->S9 n b (a,()) m ((i:Int),t)=some ((),kS a b):=by
  have hsl:(kS a b).length=a.length:=by unfold kS;rw[List.length_zipWith];omega
  intro k;induction k with
  |zero=>
   intro i m t hi hm ht;obtain⟨m,rfl⟩:∃m',m=m'+1:=⟨m-1,ah⟩;rw[am7,Ej (by dsimp only;omega),ht];have:i=a.length:=ah
   rw[this,List.drop_length,nV,<-hsl,List.take_length]
  |succ k ih=>
   intro i m t hi hm ht;obtain⟨m,rfl⟩:∃m',m=m'+1:=⟨m-1,ah⟩;have hia:i<a.length:=ah
   have htl:t.length=a.length:=by rw[ht,RS,j3,vZ,hsl];omega
   have hti:t[i]' ah=a[i]:=by subst ht;rw[List.getElem_append_right (by rw[j3,hsl];omega)];simp only[j3,hsl,List.getElem_drop];congr 1;omega
   have hsi:(kS a b)[i]' ah=a[i]-b[i]' ah:=by unfold kS;rw[List.getElem_zipWith]
   have hba:=ha.1 a[i] (jQ _);have hbb:=hb.1 (b[i]' ah) (jQ _);rw[am7,Ei (by dsimp only;omega),dT ah,cond_true];refine bs (ix ah) ?_;refine bs (ix ah) ?_;rw[cond_true];refine bs (ix ah) ?_;rw[zf ah,hti,aCh,wr ah ah,<-hsi];refine ih (i+1) m _ ah ah ?_;exact aCi hsl hia ah ht
 exact bs (key a.length 0 n a ah ah aD) rfl
theorem aCk {n:Nat}{a b:List Int}(hn:100<n)(ha:vM a)(hb:vM b)(hl:a.length=b.length):Lp n (a,b)=some (kS a b):=by
 have h1:=ha.2.1;have h2:=ha.2.2;rw[aBf];have hsl:(kS a b).length=a.length:=by unfold kS;rw[List.length_zipWith];omega
 have key:∀k (i m:Nat) (t:List Int),i+k=a.length->k<m->t=(kS a b).take i->Tj n a b m (t,(i:Int))=some (kS a b):=by
  intro k;induction k with
  |zero=>
   intro i m t hi hm ht;obtain⟨m,rfl⟩:∃m',m=m'+1:=⟨m-1,ah⟩;rw[ank,Ej ah,ht];have:i=a.length:=ah
   rw[this,<-hsl,List.take_length]
  |succ k ih=>
   intro i m t hi hm ht;obtain⟨m,rfl⟩:∃m',m=m'+1:=⟨m-1,ah⟩;have hsi:(kS a b)[i]' ah=a[i]' ah-b[i]' ah:=by unfold kS;rw[List.getElem_zipWith]
   have hba:=ha.1 (a[i]' ah) (jQ _);have hbb:=hb.1 (b[i]' ah) (jQ _);have htl:t.length=i:=by rw[ht,j3];omega
   rw[ank,Ei ah];refine bs (ix ah) ?_;refine bs (ix ah) ?_;rw[room (by simp only[List.length_singleton];omega) (by simp only[List.length_singleton];omega),cond_true,zf ah,wr ah ah];refine ih (i+1) m _ ah ah ?_;rw[ht,List.take_succ_eq_append_getElem ah,hsi]
 exact bs (key a.length 0 n [] ah ah aD) rfl
set_option maxRecDepth 100000
theorem Ya {L:Nat->Int×Int->Option Int}{d:List Int}{j:Int}(hd:∀x∈d, -2000<=x/\x<=2000)(aCl:∀(m:Nat) (s:Int) (i:Nat) (hi:i<d.length),0<=s->s<=4000000*i->L (m+1) (s,(i:Int))=L m (vN j s d[i],((i+1:Nat):Int)))(aCm:∀(m:Nat) (s:Int),L (m+1) (s,(d.length:Int))=some s):∀k (i m:Nat) (s:Int),i+k=d.length->k<m->0<=s->s<=4000000*i->L m (s,(i:Int))=some ((d.drop i).foldl (vN j) s):=by
 intro k;induction k with
 |zero=>
  intro i m s hi hm h0 h1;obtain⟨m,rfl⟩:∃m',m=m'+1:=⟨m-1,ah⟩;have:i=d.length:=ah
  subst this;rw[aCm,List.drop_length];rfl
 |succ k ih=>
  intro i m s hi hm h0 h1;obtain⟨m,rfl⟩:∃m',m=m'+1:=⟨m-1,ah⟩;have hlt:i<d.length:=ah
  have hb:=an1 (m:=j) h0 h1 (hd d[i] (jQ _));rw[aCl m s i hlt h0 h1,uJ hlt,List.foldl_cons];exact ih (i+1) m _ ah ah hb.1 (by have:=hb.2;push_cast;omega)
theorem an2 {x:Int}(hx: -2000<=x/\x<=2000):0<=x*x/\x*x<=4000000:=by have:=an1 (m:=2) (s:=0) (x:=x) (B:=0) (Int.le_refl _) (Int.le_refl _) hx;unfold vN at this;simpa using this
theorem st1 (s x:Int):vN 1 s x=s+AQ x:=rfl
theorem st2 (s x:Int):vN 2 s x=s+x*x:=rfl
theorem mV (s x:Int):vN 3 s x=imax s (AQ x):=rfl
theorem aCn {n:Nat}{m:Int}{d:List Int}(hn:100<n)(hd:∀x∈d, -2000<=x/\x<=2000)(hl:d.length<=32)(hm:m=1\/m=2\/m=3):KQ n (m,d)=some (Mv m d):=by
 rw[aAQ];rcases hm with rfl|rfl|rfl
 ·refine bs (a:=Mv 1 d) ?_ rfl
  rw[aAL];refine bs (Ya (L:=Ta n d) (j:=1) hd ?_ ?_ d.length 0 n 0 ah ah ah ah) rfl
  ·intro mm s i hi h0 h1
   have hb:=hd d[i] (jQ _);rw[am8,Ei ah];refine bs (ix hi) ?_;refine bs (a:=vN 1 s d[i]) ?_ (by rw[zf ah]);rw[aAK,st1,wr (i:=0-d[i]) ah ah,Int.zero_sub,wr (by have:=TB d[i];unfold AQ at this;omega) (by have:=TB d[i];unfold AQ at this;omega)]
  ·intro mm s;rw[am8,Ej ah]
 ·refine bs (a:=Mv 2 d) ?_ rfl
  rw[aAN];refine bs (Ya (L:=Tc n d) (j:=2) hd ?_ ?_ d.length 0 n 0 ah ah ah ah) rfl
  ·intro mm s i hi h0 h1
   have hb:=hd d[i] (jQ _);have hq:=an2 hb;rw[am9,Ei ah];refine bs (ix hi) ?_;refine bs (a:=vN 2 s d[i]) ?_ (by rw[zf ah]);rw[aAM,st2,wr (i:=d[i]*d[i]) ah ah,wr ah ah]
  ·intro mm s;rw[am9,Ej ah]
 ·refine bs (a:=Mv 3 d) ?_ rfl
  rw[aAP];refine bs (Ya (L:=Td n d) (j:=3) hd ?_ ?_ d.length 0 n 0 ah ah ah ah) rfl
  ·intro mm s i hi h0 h1
   have hb:=hd d[i] (jQ _);rw[ana,Ei ah];refine bs (ix hi) ?_;refine bs (a:=vN 3 s d[i]) ?_ (by rw[zf ah]);rw[aAO,mV,wr (i:=0-d[i]) ah ah,Int.zero_sub];congr 1;unfold AQ imax
   (repeat' split)<;>omega
  ·intro mm s;rw[ana,Ej ah]
theorem size_eq (n:Nat){x:Int}(hx: -2000<=x/\x<=2000):WD n x=some (AQ x):=by
 rw[aBg];have:=TB x;by_cases h:x<0
 ·rw[dT h,cond_true,wr ah ah];congr 1;omega
 ·rw[qL h,cond_false];congr 1;omega
theorem aCo {n:Nat}{m:Int}{d:List Int}(hn:100<n)(hd:∀x∈d, -2000<=x/\x<=2000)(hl:d.length<=32)(hm:m=1\/m=2\/m=3):Lu n (m,d)=some (Mv m d):=by
 rw[aBh];refine bs (Ya (L:=Gi n m d) (j:=m) hd ?_ ?_ d.length 0 n 0 ah ah ah ah) rfl
 ·intro mm s i hi h0 h1
  have hb:=hd d[i] (jQ _);have hq:=an2 hb;have ha:=TB d[i];rw[anl,Ei ah,zf ah];rcases hm with rfl|rfl|rfl
  ·rw[show ((1:Int)==1)=true from rfl,cond_true]
   refine bs (ix hi) ?_;refine bs (size_eq n hb) ?_;rw[wr ah ah,st1]
  ·rw[show ((2:Int)==1)=false from rfl,show ((2:Int)==2)=true from rfl,cond_false,cond_true]
   refine bs (ix hi) ?_;refine bs (ix hi) ?_;rw[wr (i:=d[i]*d[i]) ah ah,wr ah ah,st2]
  ·rw[show ((3:Int)==1)=false from rfl,show ((3:Int)==2)=false from rfl,cond_false,cond_false]
   refine bs (ix hi) ?_;refine bs (size_eq n hb) ?_;rw[mV]
 ·intro mm s;rw[anl,Ej ah]
theorem aCp {n:Nat}{m:Int}{a b:List Int}(hn:100<n)(hm:m=1\/m=2\/m=3)(ha:vM a)(hb:vM b)(hl:a.length=b.length):Wl n (m,(a,b))=some (zU m a b):=by
 have hsl:(kS a b).length<=32:=by unfold kS;rw[List.length_zipWith];have:=ha.2.2;omega
 rw[aAR];exact bs (aCj hn ha hb hl) (bs (aCn hn (ads ha.1 hb.1) hsl hm) rfl)
theorem aCq {n:Nat}{m:Int}{a b:List Int}(hn:100<n)(hm:m=1\/m=2\/m=3)(ha:vM a)(hb:vM b)(hl:a.length=b.length):WF n (m,(a,b))=some (zU m a b):=by
 have hsl:(kS a b).length<=32:=by unfold kS;rw[List.length_zipWith];have:=ha.2.2;omega
 rw[aBi];exact bs (aCk hn ha hb hl) (bs (aCo hn (ads ha.1 hb.1) hsl hm) rfl)
set_option maxRecDepth 100000
def an3 (m:Int):Bool:=bif decide (m>=1) then decide (m<=3) else false
theorem aCr {m:Int}:an3 m=true↔m=1\/m=2\/m=3:=by unfold an3;rw[Bool.cond_false_right,aT,decide_eq_true_iff,decide_eq_true_iff];omega
def xC (x:Int):Bool:=decide (-1000<=x)&& decide (x<=1000)
theorem an4 (a:List Int):o8 a=(a.all xC&& (decide (1<=a.length)&& decide (a.length<=32))):=rfl
theorem cF (a b:Bool):(bif a then b else false)=(a&& b):=by cases a<;>rfl
theorem aCs {n:Nat}{a:List Int}(hn:100<n)(hl:a.length<=40):VS n a=some (o8 a):=by
 rw[aAb];have key:∀k (i m:Nat) (b:Bool),i+k=a.length->k<m->Sz n a m (b,(i:Int))=some (b&& (a.drop i).all xC):=by
  intro k;induction k with
  |zero=>
   intro i m b hi hm;obtain⟨m,rfl⟩:∃m',m=m'+1:=⟨m-1,ah⟩;have:i=a.length:=ah
   rw[am1,Ej ah,this,List.drop_length,List.all_nil,Bool.and_true]
  |succ k ih=>
   intro i m b hi hm;obtain⟨m,rfl⟩:∃m',m=m'+1:=⟨m-1,ah⟩;have hlt:i<a.length:=ah
   rw[am1,Ei ah];refine bs (ix hlt) ?_;refine bs (az9 ..) ?_;rw[zf ah,ih (i+1) m _ ah ah,uJ hlt,List.all_cons,cF,cF,Bool.and_assoc,Bool.and_assoc];rw[show xC a[i]=(decide (a[i]>= -1000)&& decide (a[i]<=1000)) from rfl,Bool.and_assoc]
 have h:=key a.length 0 n true ah ah;refine bs (a:=a.all xC) ?_ ?_
 ·rw[aAa]
  refine bs h ?_;rw[CG,Bool.true_and]
 ·rw[an4,cF,cF,Bool.and_assoc,show decide ((a.length:Int)>=1)=decide (1<=a.length) from decide_eq_decide.2 ah,show decide ((a.length:Int)<=32)=decide (a.length<=32) from decide_eq_decide.2 ah]
theorem an5 {n:Nat}{a:List Int}(hn:100<n)(hl:a.length<=40):DN n a=some (o8 a):=by
 rw[amN];have key:∀k (i m:Nat),i+k=a.length->k<m->AO n a m (i:Int)=some (bif (a.drop i).all xC then .inl () else .inr false):=by
  intro k;induction k with
  |zero=>
   intro i m hi hm;obtain⟨m,rfl⟩:∃m',m=m'+1:=⟨m-1,ah⟩;have:i=a.length:=ah
   rw[X3,Ej ah,this,List.drop_length];rfl
  |succ k ih=>
   intro i m hi hm;obtain⟨m,rfl⟩:∃m',m=m'+1:=⟨m-1,ah⟩;have hlt:i<a.length:=ah
   rw[X3,Ei ah];refine bs (ix hlt) ?_;rw[uJ hlt,List.all_cons];by_cases h1:a[i]< -1000
   ·rw[dT h1]
    refine bs rfl ?_;have:xC a[i]=false:=(by unfold xC;rw[qL ah];rfl);rw[this];rfl
   ·rw[qL h1]
    refine bs (ix hlt) ?_;by_cases h2:a[i]>1000
    ·have:xC a[i]=false:=by unfold xC;rw[Bool.and_eq_false_iff];right;rw[qL ah]
     rw[this,dT h2];rfl
    ·have:xC a[i]=true:=by unfold xC;rw[dT ah,dT ah];rfl
     rw[this,qL h2,Bool.true_and];show AO n a m _=_;rw[zf ah];exact ih (i+1) m ah ah
 refine bs (key a.length 0 n ah ah) ?_;rw[CG,an4];cases a.all xC
 ·rfl
 ·show some (bif decide ((a.length:Int)>=1) then decide ((a.length:Int)<=32) else false)=_
  rw[cF,Bool.true_and,show decide ((a.length:Int)>=1)=decide (1<=a.length) from decide_eq_decide.2 ah,show decide ((a.length:Int)<=32)=decide (a.length<=32) from decide_eq_decide.2 ah]
end Sh
end
section
open Go Go.Proofs aR
namespace Sh
theorem aCt {n:Nat}{p:Pred}(hn:iB p<n)(hp:iB p<2^62):UV n p=some (((((pre p).take 1000).length:Nat)):Int):=by rw[azR,Pred.lH,anR hn hp];rfl
theorem an6 {n:Nat}:∀(g:Nat)(p:Pred)(k:Int),iB p<=g->iB p<n->iB p<2^62->∃b:Bool,JK n g (p,k)=some b
 |0,p,k,hg,_,_=>Ur|g+1,p,k,hg,hn,hp=>by
  have hs:=Tw p;have hlen:=Tx p.bS;obtain⟨r,hr⟩:=y7 (L:=fun m (_:Unit) i=>Eb n g p k m i) (l:=p.bS)
   (fun m i x _ hx ih=>by have hlt:=lW hx;have hsz:=Tz (pF hx);show∃r,Eb n g p k (m+1) (i:Int)=some r;obtain⟨b,hb⟩:=an6 (n:=n) g x (wrap .i64 (k-(1:Int))) ah ah ah;rw[amK,jY hx,eB hx,gJ ah,cond_true,Option.bind_some,Pred.lH,hb];show∃r,(bif !b then _ else _)=some r;exact ku ⟨_,rfl⟩ (ih ()))
   (fun m _ i hi=>by show∃r,Eb n g p k (m+1) (i:Int)=some r;rw[amK,qK hi];exact⟨_,rfl⟩) p.bS.length 0 n () ah ah
  have hr':Eb n g p k n (0:Int)=some r:=hr;obtain⟨z,hz⟩:=Mr (c:= !(decide (k< (1:Int)))) (o:=UV n p) (d:=(0:Int)) (fun _=>⟨_,aCt hn hp⟩);rw[azS,Pred.lH];show∃b:Bool,Option.bind (jS _ _ _) _=some b;rw[hz];show∃b:Bool,(bif _ then some false else _)=some b;refine ku ⟨_,rfl⟩ ?_;rw[hr',Option.bind_some];cases r with
  |inl q=>exact⟨true,rfl⟩|inr q=>exact⟨q,rfl⟩
theorem aCu {n:Nat}{p:Pred}{k:Int}(hn:iB p<n)(hp:iB p<2^62):∃b:Bool,QR n (p,k)=some b:=by
 have e:QR n (p,k)=JK n n (p,k):=by unfold QR;rfl
 rw[e];exact an6 n p k ah hn hp
def TD (q:Query)(n:Nat):Prop:=6*iB q.Where<n/\iB q.Where<2^62
theorem aCv {n:Nat}{q:Query}(h:TD q n):∃b:Bool,JM n q=some b/\(b=true->q.Vec.length<=40):=by
 obtain⟨h1,h2⟩:=h;obtain⟨b,hb⟩:=aCu (n:=n) (p:=q.Where) (k:=20) ah h2;rw[azT,Pred.lH];refine⟨_,bs hb rfl,fun h=>?_⟩;cases b
 ·cases h
 ·have:decide (((q.Vec.length:Nat):Int)<=40)=true:=h
  have:=of_decide_eq_true this;omega
theorem aCw {n:Nat}{s:aJ}(hs:oz s n)(hn:6<n)(h:BQ n s=some (0:Int)):s.fU=1\/s.fU=2\/s.fU=3:=by
 rw[amE,amx] at h;cases hd:(bif decide (s.eH< (1:Int)) then true else decide (s.eH> (32:Int)))
 ·rw[hd] at h
  have h:(bif !(bif decide (s.fU>=(1:Int)) then decide (s.fU<=(3:Int)) else false) then some (1:Int) else _)=some (0:Int):=h;cases hm:(bif decide (s.fU>=(1:Int)) then decide (s.fU<=(3:Int)) else false)
  ·rw[hm] at h
   exact absurd (jP (show some (1:Int)=some 0 from h)) aX
  ·have h1:=(aCr (m:=s.fU)).1 hm
   exact h1
 ·rw[hd] at h
  exact absurd (jP (show some (1:Int)=some 0 from h)) aX
def Mw (q:Query)(e:Int):Int:=bif e !=0 then e else bif bif bif bif decide (q.At.Day< (0:Int)) then true else decide (q.At.Day> (1048576:Int)) then true else decide (q.At.aS< (0:Int)) then true else decide (q.At.aS> (1073741824:Int)) then 9 else 0
def Cm (q:Query):Bool:=bif bif bif bif bif decide (q.K< (1:Int)) then true else decide (q.K> (64:Int)) then true else decide (q.Within< (0:Int)) then true else decide (q.Within> (134217728:Int)) then true else decide (q.Budget< (0:Int)) then true else decide (q.Budget> (65536:Int))
def Gu (s:aJ)(q:Query)(e:Int):Int:=bif o8 q.Vec&& decide (((q.Vec.length:Nat):Int)=s.eH) then (bif Cm q then 2 else Mw q e) else 40
theorem an7 {n:Nat}{s:aJ}{q:Query}(hn:1000<n)(hs:oz s n)(hq:TD q n)(hv:q.Vec.length<=40):∃e:Int,Wk n (s,q)=some (Gu s q e)/\Wr n (s,q)=some (Gu s q e):=by
 obtain⟨h1,h2⟩:=hq;have hc:=aCf (n:=n) (s:=s) (p:=q.Where) ah h2 hs.1 hs.2.1 hn;obtain⟨e,he⟩:∃e:Int,DV n (s,q.Where)=some e:=⟨_,anU (n:=n) (s:=s) (p:=q.Where) ah h2 hs.1 hs.2.1 hn⟩;rw[he] at hc;refine⟨e,?_,?_⟩
 ·rw[aAm,Pred.lH]
  have hw:∃b:Bool,jS (!((((q.Vec.length:Nat):Int)) !=s.eH)) (VS n q.Vec) false=some b/\(bif (((q.Vec.length:Nat):Int)) !=s.eH then true else !b)= !(o8 q.Vec&& decide (((q.Vec.length:Nat):Int)=s.eH)):=by
   have hvv:VS n q.Vec=some (o8 q.Vec):=aCs ah hv;by_cases c:((q.Vec.length:Nat):Int)=s.eH
   ·rw[decide_eq_true c,show ((((q.Vec.length:Nat):Int)) !=s.eH)=false by simp[c]]
    exact⟨o8 q.Vec,hvv,by rw[Bool.and_true];rfl⟩
   ·rw[decide_eq_false c,show ((((q.Vec.length:Nat):Int)) !=s.eH)=true by simpa using c]
    exact⟨false,rfl,by rw[Bool.and_false];rfl⟩
  obtain⟨b,b1,b2⟩:=hw;refine bs b1 ?_;rw[b2];unfold Gu;cases (o8 q.Vec&& decide (((q.Vec.length:Nat):Int)=s.eH))
  ·rfl
  ·show (bif Cm q then some (2:Int) else _)=some (bif Cm q then 2 else Mw q e)
   cases Cm q
   ·refine bs hc ?_
    unfold Mw;cases e !=(0:Int)
    ·cases (bif bif bif decide (q.At.Day< (0:Int)) then true else decide (q.At.Day> (1048576:Int)) then true else decide (q.At.aS< (0:Int)) then true else decide (q.At.aS> (1073741824:Int)))<;>rfl
    ·rfl
   ·rfl
 ·rw[aBa,Pred.lH]
  refine bs (an5 ah hv) ?_;have b2:(bif !(o8 q.Vec) then true else (((q.Vec.length:Nat):Int)) !=s.eH)= !(o8 q.Vec&& decide (((q.Vec.length:Nat):Int)=s.eH)):=by
   by_cases c:((q.Vec.length:Nat):Int)=s.eH
   ·rw[decide_eq_true c,show ((((q.Vec.length:Nat):Int)) !=s.eH)=false by simp[c]]
    cases o8 q.Vec<;>rfl
   ·rw[decide_eq_false c,show ((((q.Vec.length:Nat):Int)) !=s.eH)=true by simpa using c]
    cases o8 q.Vec<;>rfl
  rw[b2];unfold Gu;cases (o8 q.Vec&& decide (((q.Vec.length:Nat):Int)=s.eH))
  ·rfl
  ·show (bif Cm q then some (2:Int) else _)=some (bif Cm q then 2 else Mw q e)
   cases Cm q
   ·refine bs he ?_
    unfold Mw;cases e !=(0:Int)
    ·cases (bif bif bif decide (q.At.Day< (0:Int)) then true else decide (q.At.Day> (1048576:Int)) then true else decide (q.At.aS< (0:Int)) then true else decide (q.At.aS> (1073741824:Int)))<;>rfl
    ·rfl
   ·rfl
theorem aCx {s:aJ}{q:Query}{e:Int}(h:Gu s q e=0):vM q.Vec/\((q.Vec.length:Nat):Int)=s.eH/\1<=q.K/\q.K<=64/\0<=q.At.aS:=by
 unfold Gu at h;cases hv:(o8 q.Vec&& decide (((q.Vec.length:Nat):Int)=s.eH))
 ·rw[hv] at h;exact absurd (show (40:Int)=0 from h) aX
 ·rw[hv,cond_true] at h
  obtain⟨a1,a2⟩:o8 q.Vec=true/\decide (((q.Vec.length:Nat):Int)=s.eH)=true:=by rw[aT] at hv;exact hv
  cases hl:Cm q
  ·rw[hl,cond_false] at h
   have hl2:decide (q.K< (1:Int))=false/\decide (q.K> (64:Int))=false:=by
    unfold Cm at hl;cases c1:decide (q.K< (1:Int))
    ·cases c2:decide (q.K> (64:Int))
     ·exact⟨rfl,rfl⟩
     ·rw[c1,c2] at hl;cases hl
    ·rw[c1] at hl;cases hl
   have k1:=of_decide_eq_false hl2.1;have k2:=of_decide_eq_false hl2.2;have hc:0<=q.At.aS:=by
    refine Classical.byContradiction fun hn=>?_;unfold Mw at h;cases he:(e !=(0:Int))
    ·rw[he,cond_false,decide_eq_true (show q.At.aS<0 by omega)] at h
     have key:∀x y:Bool,(bif (bif x then true else true) then true else y)=true:=(by intro x y;cases x<;>rfl);rw[key] at h;exact absurd (show (9:Int)=0 from h) aX
    ·rw[he,cond_true] at h
     rw[h] at he;exact absurd he aX
   exact⟨(an0 _).1 a1,of_decide_eq_true a2,ah,ah,hc⟩
  ·rw[hl] at h;exact absurd (show (2:Int)=0 from h) aX
end Sh
end
section
open Go Go.Proofs aR
namespace Sh
def AU (id rG commit:Int)(r:Row):Row:=if r.Entry.ID=id/\r.Entry.From=rG/\r.nC=0/\r.Entry.iV<commit then ⟨r.Entry,commit⟩ else r
theorem set_mid {α:Type}(a:List α)(x y:α)(b:List α):dH (a++x::b) (a.length:Int) y=a++y::b:=by unfold dH;rw[show ((a.length:Int)).toNat=a.length from rfl,List.set_append_right _ _ (iP _),Nat.sub_self];rfl
theorem aCy {n:Nat}{rows:List Row}{id rG commit:Int}(h:rows.length<n)(hb:rows.length<2^30):FY n (rows,(id,(rG,commit)))=some (rows.map (AU id rG commit)):=by
 have key:∀(b a:List Row)(m:Nat),a.length+b.length=rows.length->b.length<m->Me n id rG commit m ((a.length:Int),a++b)=some ((),a++b.map (AU id rG commit)):=by
  intro b;induction b with
  |nil=>intro a m hl hm;obtain⟨m,rfl⟩:∃m',m=m'+1:=⟨m-1,by simp at hm;omega⟩;rw[amS,nV,sQ];simp
  |cons x b ih=>
   intro a m hl hm;obtain⟨m,rfl⟩:∃m',m=m'+1:=⟨m-1,by simp at hm;omega⟩;simp only[List.length_cons] at hl hm;have hx:(a++x::b)[a.length]? =some x:=aD
   have hin:=Gq (lW hx);have ih':=fun y=>ih (a++[y]) m eY ah;have e0:∀y,(((a++[y]).length:Nat):Int)=((a.length+1:Nat):Int):=fun y=>aD
   rw[amS,jY hx,cond_true,hin,cond_true];refine bs (eB hx) ?_;have imp:∀b:Bool,Oz b true=true:=fun b=>by cases b<;>rfl
   have hw:∀(c:Bool)(d:Row),jS c (aN (a++x::b) (a.length:Int)) d=some (bif c then x else d):=fun c d=>by rw[eB hx];exact anC
   rw[imp,cond_true];refine bs (hw _ _) ?_;rw[imp,cond_true];refine bs (hw _ _) ?_;rw[imp,cond_true];refine bs (hw _ _) ?_;have hset:dH (a++x::b) (a.length:Int) (⟨x.Entry,commit⟩:Row)=a++[(⟨x.Entry,commit⟩:Row)]++b:=by rw[set_mid];simp
   by_cases c1:x.Entry.ID=id
   ·have e1:(x.Entry.ID==id)=true:=by simpa using c1
    simp only[e1,cond_true];by_cases c2:x.Entry.From=rG
    ·have e2:(x.Entry.From==rG)=true:=by simpa using c2
     simp only[e2,cond_true];by_cases c3:x.nC=0
     ·have e3:(x.nC==(0:Int))=true:=by simpa using c3
      simp only[e3,cond_true];by_cases c4:x.Entry.iV<commit
      ·rw[decide_eq_true c4,cond_true]
       refine bs (eB hx) ?_;rw[gJ ah,hset,<-e0,ih'];simp[AU,c1,c2,c3,c4]
      ·rw[decide_eq_false c4,cond_false,gJ ah,show a++x::b=a++[x]++b by simp,<-e0 x,ih']
       simp[AU,c1,c2,c3,c4]
     ·have e3:(x.nC==(0:Int))=false:=by simpa using c3
      simp only[e3,cond_false];rw[gJ ah,show a++x::b=a++[x]++b by simp,<-e0 x,ih'];simp[AU,c3]
    ·have e2:(x.Entry.From==rG)=false:=by simpa using c2
     simp only[e2,cond_false];rw[gJ ah,show a++x::b=a++[x]++b by simp,<-e0 x,ih'];simp[AU,c2]
   ·have e1:(x.Entry.ID==id)=false:=by simpa using c1
    simp only[e1,cond_false];rw[gJ ah,show a++x::b=a++[x]++b by simp,<-e0 x,ih'];simp[AU,c1]
 rw[azZ,Ee hb ah,cond_true];exact bs (key rows [] n aD h) rfl
theorem an8 {α:Type}{l:List α}{i:Int}{x y:α}(h:y∈dH l i x):y∈l\/y=x:=by unfold dH at h;exact List.mem_or_eq_of_mem_set h
theorem X8 {α:Type}(l:List α)(i:Int)(x:α):(dH l i x).length=l.length:=by unfold dH;simp
theorem aCz {n:Nat}{b:Book}{id i:Int}{x:Row}(hx:aN b.Rows i=some x):∀(k m:Nat)(out:List Row),k<out.length->k<m->k<2^62->(∀r∈out,r∈b.Rows/\r.Entry.ID=id)->
 ∃(k':Nat) (out':List Row),Sy n b id i m ((k:Int),out)=some ((k':Int),out')/\k'<out'.length/\out'.length=out.length/\∀r∈out',r∈b.Rows/\r.Entry.ID=id:=by
 intro k;induction k with
 |zero=>intro m out hk hm hb ho;obtain⟨m,rfl⟩:∃m',m=m'+1:=⟨m-1,ah⟩;exact⟨0,out,by rw[amW];rfl,hk,rfl,ho⟩
 |succ k ih=>
  intro m out hk hm hb ho;obtain⟨m,rfl⟩:∃m',m=m'+1:=⟨m-1,ah⟩;have hk1:k<out.length:=ah
  have hy:aN out ((k:Nat):Int)=some out[k]:=by rw[AP,jc hk1]
  have hz:aN out (((k+1:Nat)):Int)=some out[k+1]:=by rw[AP,jc hk]
  have hym:out[k]∈out:=jQ hk1;generalize out[k]=y at hy hym;generalize out[k+1]=z at hz;have hw:wrap .i64 (((k+1:Nat):Int)-(1:Int))=((k:Nat):Int):=by rw[ado ah hb];rfl
  rw[amW,decide_eq_true ah,cond_true,hw,Gq hk1,cond_true];by_cases c:y.Entry.From>x.Entry.From
  ·obtain⟨k',out',h1,h2,h3,h4⟩:=ih m (dH out ((k+1:Nat):Int) y) (by rw[X8];exact hk1) ah ah (fun r hr=>by
    rcases an8 hr with h|h
    ·exact ho r h
    ·rw[h];exact ho y hym)
   refine⟨k',out',?_,h2,by rw[h3,X8],h4⟩;refine bs hy (bs hx ?_);rw[decide_eq_true c,cond_true];refine bs hy ?_;rw[Gq hk,cond_true];exact bs hz h1
  ·refine⟨k+1,out,?_,hk,rfl,ho⟩
   refine bs hy (bs hx ?_);rw[decide_eq_false c,cond_false]
theorem aCA {n:Nat}{b:Book}{id:Int}(h:b.Rows.length<n)(hb:b.Rows.length<2^29):∃l:List Row,BR n (b,id)=some l/\l.length<=b.Rows.length/\∀r∈l,r∈b.Rows/\r.Entry.ID=id:=by
 have key:∀(k i m:Nat)(out:List Row),i+k=b.Rows.length->k<m->out.length<=i->(∀r∈out,r∈b.Rows/\r.Entry.ID=id)->∃q:PUnit×List Row,F9 n b id m (((),(i:Int)),out)=some q/\q.2.length<=b.Rows.length/\∀r∈q.2,r∈b.Rows/\r.Entry.ID=id:=by
  intro k;induction k with
  |zero=>intro i m out hi hm ho hr;obtain⟨m,rfl⟩:∃m',m=m'+1:=⟨m-1,ah⟩;exact⟨((),out),by rw[amX,decide_eq_false ah];rfl,by show out.length<=_;omega,hr⟩
  |succ k ih=>
   intro i m out hi hm ho hr;obtain⟨m,rfl⟩:∃m',m=m'+1:=⟨m-1,ah⟩;have hlt:i<b.Rows.length:=ah
   have hx:aN b.Rows (i:Int)=some b.Rows[i]:=by rw[AP,jc hlt]
   have hxm:b.Rows[i]∈b.Rows:=jQ hlt;generalize b.Rows[i]=x at hx hxm;have hw:∀(c:Bool)(d:Row),jS c (aN b.Rows ((i:Nat):Int)) d=some (bif c then x else d):=fun c d=>by rw[hx];exact anC
   have next:∀out':List Row,out'.length<=i+1->(∀r∈out',r∈b.Rows/\r.Entry.ID=id)->∃q:PUnit×List Row,F9 n b id m (((),wrap .i64 ((i:Int)+(1:Int))),out')=some q/\q.2.length<=b.Rows.length/\∀r∈q.2,r∈b.Rows/\r.Entry.ID=id:=fun out' h1 h2=>by rw[gJ ah];exact ih (i+1) m out' ah ah h1 h2
   rw[amX,decide_eq_true ah,cond_true];refine eX ⟨x,hx,?_⟩;refine eX ⟨_,hw _ _,?_⟩;refine kr (fun hid=>?_) (fun _=>next out ah hr);have hid:x.Entry.ID=id:=by
    cases h:(x.Entry.ID==id)
    ·rw[h] at hid;cases hid
    ·simpa using h
   refine eX ⟨x,hx,?_⟩;rw[Ee (show out.length+[x].length<2^30 by simp;omega) ah,cond_true];obtain⟨k',out',h1,h2,h3,h4⟩:=aCz (n:=n) (b:=b) (id:=id) hx out.length n (out++[x]) aD ah ah (fun r hr'=>by
    rcases nG.1 hr' with h|h
    ·exact hr r h
    ·simp at h;rw[h];exact⟨hxm,hid⟩)
   refine eX ⟨_,h1,?_⟩;refine eX ⟨x,hx,?_⟩;dsimp only;rw[Gq h2,cond_true];refine eX ⟨out'[k'],by rw[AP,jc h2],?_⟩;refine next _ (by rw[X8,h3];simp;omega) (fun r hr'=>?_);rcases an8 hr' with h|h
   ·exact h4 r h
   ·rw[h];exact⟨hxm,hid⟩
 obtain⟨l,h1,h2,h3⟩:=key b.Rows.length 0 n [] ah h aD aD;exact⟨l.2,by rw[az2];exact bs h1 rfl,h2,h3⟩
theorem Mx {α:Type}{P:α->Prop}{a k:Nat}{o:Option α}(ho:∃r,o=some r/\P r)(h:a<2^31)(hk:k<=2^12:=by omega):∃r,(bif dB a k then o else none)=some r/\P r:=by
 have:dB a k=true:=by
  unfold dB;have h1:a*k<=2^31*2^12:=Nat.mul_le_mul (Nat.le_of_lt h) hk;have e:(2:Nat)^31*2^12<=2^47:=aX
  rw[aT,decide_eq_true_iff,decide_eq_true_iff];exact⟨ah,ah⟩
 rw[this];exact ho
theorem aCB (id rG c:Int)(r:Row):(AU id rG c r).Entry=r.Entry:=by unfold AU;split<;>rfl
def an9 (s:aJ)(v:List Int):Prop:=vM v/\(v.length:Int)=s.eH
def Gv (n:Nat)(s:aJ)(e:Entry):Prop:=Tv e n/\an9 s e.Vec
theorem aCC {n:Nat}{s:aJ}{e:Entry}(hn:100<n)(hs:oz s n)(h:Tv e n)(h0:JT n (s,e)=some (0:Int)):an9 s e.Vec:=by
 obtain⟨h1,h2,h3,h4,h5⟩:=h;obtain⟨r,hr⟩:=anI hs h3 h4;rw[amQ,an5 hn h5.1,hr] at h0;have key:∀(c1 c2:Bool)(o:Option Int),(bif c1 then some (1:Int) else bif c2 then some (9:Int) else o)=some 0->o=some 0:=fun c1 c2 o h=>by
  cases c1
  ·cases c2
   ·exact h
   ·exact absurd (jP (show some (9:Int)=some 0 from h)) aX
  ·exact absurd (jP (show some (1:Int)=some 0 from h)) aX
 have h0:=key _ _ _ h0;have h0:(bif (bif !(o8 e.Vec) then true else (((e.Vec.length:Nat):Int)) !=s.eH) then some (40:Int) else some r)=some 0:=h0;cases hv:o8 e.Vec
 ·rw[hv] at h0;exact absurd (jP (show some (40:Int)=some 0 from h0)) aX
 ·rw[hv] at h0
  cases hd:((((e.Vec.length:Nat):Int)) !=s.eH)
  ·exact⟨(an0 _).1 hv,M6⟩
  ·rw[hd] at h0;exact absurd (jP (show some (40:Int)=some 0 from h0)) aX
structure CI (n:Nat)(s:aJ)(k i:Nat)(rows added:List Row):Prop where
 rl:rows.length=k
 al:added.length<=i
 rg:∀r∈rows,Gv n s r.Entry
 ag:∀r∈added,Gv n s r.Entry
theorem CI.die {n:Nat}{s:aJ}{k i:Nat}{rows added:List Row}(h:CI n s k i rows added)(id rG c:Int):CI n s k i (rows.map (AU id rG c)) added:=
 ⟨by rw[iG];exact h.rl,h.al,fun r hr=>by obtain⟨x,hx,rfl⟩:=xL.1 hr;rw[aCB];exact h.rg x hx,h.ag⟩
theorem CI.next {n:Nat}{s:aJ}{k i:Nat}{rows added:List Row}(h:CI n s k i rows added):CI n s k (i+1) rows added:=⟨h.rl,Nat.le_succ_of_le h.al,h.rg,h.ag⟩
theorem CI.push {n:Nat}{s:aJ}{k i:Nat}{rows added:List Row}(h:CI n s k i rows added){y:Row}(hy:Gv n s y.Entry):CI n s k (i+1) rows (added++[y]):=
 ⟨h.rl,by rw[RS,List.length_singleton];exact Nat.succ_le_succ h.al,h.rg,fun r hr=>by
   rcases nG.1 hr with hr|hr
   ·exact h.ag r hr
   ·rw[jk.1 hr];exact hy⟩
theorem aCD {n:Nat}{s:aJ}{b:Book}{e:Event}{l:List Row}{to:List dD}{more:Entry}{k0:Nat}(hn:2^20<n)(hl:l.length<=65536)(hlt:to.length=l.length)(hlr:∀r∈l,Gv n s r.Entry)(hr0:k0<=65536):
 ∀(k i m:Nat)(ver:Int)(rows added:List Row),i+k=l.length->k<m->CI n s k0 i rows added->
 ∃q:Int×(List Row)×List Row,xA n b e l to more m (ver,(rows,(added,(i:Int))))=some q/\CI n s k0 l.length q.2.1 q.2.2:=by
 intro k;induction k with
 |zero=>
  intro i m ver rows added hi hm h1;obtain⟨m,rfl⟩:∃m',m=m'+1:=⟨m-1,ah⟩;obtain rfl:i=l.length:=ah
  exact⟨_,by rw[amT,decide_eq_false ah];rfl,h1⟩
 |succ k ih=>
  intro i m ver rows added hi hm h1;obtain⟨m,rfl⟩:∃m',m=m'+1:=⟨m-1,ah⟩;have hrl:=h1.rl;have hal:=h1.al;obtain⟨x,hx,hxm⟩:=Cj (l:=l) (i:=i) ah;obtain⟨d,hd,_⟩:=Cj (l:=to) (i:=i) ah;have aoa:=fun rG=>aCy (n:=n) (rows:=rows) (id:=e.ID) (rG:=rG) (commit:=e.aS) ah ah;have nx:∀(ver:Int)(rows' vO:List Row),CI n s k0 (i+1) rows' vO->
   ∃q:Int×(List Row)×List Row,xA n b e l to more m (ver,(rows',(vO,wrap .i64 ((i:Int)+(1:Int)))))=some q/\CI n s k0 l.length q.2.1 q.2.2:=fun ver rows' vO k1=>by
   rw[gJ ah];exact ih (i+1) m ver rows' vO ah ah k1
  generalize hw:wrap .i64 (ver+(1:Int))=w;have grow:∀(c:Bool)(rows':List Row),CI n s k0 i rows' added->∃q:Int×(List Row)×List Row,(bif c then (aN to (i:Int)).bind fun (qJ:dD)=>(aN to (i:Int)).bind fun (Sw:dD)=>bif dB (added.length+([(⟨(⟨x.Entry.ID,w,x.Entry.jg,x.Entry.kJ,qJ.from_,Sw.to,e.aS,x.Entry.Vec,x.Entry.bU⟩:Entry),(0:Int)⟩:Row)].length)) 112 then xA n b e l to more m ((w,(rows',(added++[(⟨(⟨x.Entry.ID,w,x.Entry.jg,x.Entry.kJ,qJ.from_,Sw.to,e.aS,x.Entry.Vec,x.Entry.bU⟩:Entry),(0:Int)⟩:Row)],wrap .i64 ((i:Int)+(1:Int))))))else none else xA n b e l to more m ((ver,(rows',(added,wrap .i64 ((i:Int)+(1:Int)))))))=some q/\CI n s k0 l.length q.2.1 q.2.2:=by
   intro c rows' k1;refine kr (fun _=>?_) (fun _=>nx _ _ _ k1.next);refine eX ⟨d,hd,?_⟩;refine eX ⟨d,hd,?_⟩;exact Mx (nx _ _ _ (k1.push (hlr x hxm))) eY
  rw[amT,decide_eq_true ah,cond_true,hw];refine eX ⟨x,hx,?_⟩;refine eX ⟨d,hd,?_⟩;refine kr (fun _=>?_) (fun _=>?_)
  ·refine eX ⟨d,hd,?_⟩
   refine kr (fun _=>nx _ _ _ h1.next) (fun _=>?_);refine eX ⟨_,aoa _,?_⟩;refine eX ⟨d,hd,?_⟩;refine eX ⟨d,hd,?_⟩;exact grow _ _ (h1.die _ _ _)
  ·refine eX ⟨_,aoa _,?_⟩
   refine eX ⟨d,hd,?_⟩;refine eX ⟨d,hd,?_⟩;exact grow _ _ (h1.die _ _ _)
structure mO (n:Nat)(s:aJ)(b:Book):Prop where
 schema:b.aJ=s
 commit:b.aS=((b.bV.length:Nat):Int)
 days:b.bV.length<=2^30
 rows:b.Rows.length<=65536
 row:∀r∈b.Rows,Gv n s r.Entry
def adt (e:Event)(n:Nat):Prop:=e.Vec.length<n/\e.Vec.length<2^62/\e.bU.length<n/\e.bU.length<2^62
def TF (e:Event)(n:Nat):Prop:=e.Vec.length<n/\e.Vec.length<2^62/\e.bU.length<n/\e.bU.length<2^62/\Ms e.Vec e.bU
structure MB (b:Book)(e:Event):Prop where
 c:e.aS=b.aS+1
 c2:e.aS<=2^30
theorem TG {n:Nat}{s:aJ}{b:Book}{e:Event}{l:List Row}{to:List dD}{more:Entry}(hn:2^20<n)(hs:oz s n)(hb:mO n s b)(hl:l.length<=65536)(hlt:to.length=l.length)(hlr:∀r∈l,r∈b.Rows)(hm:Tv more n)(he:MB b e):∃r:bN,Ao n (b,(e,(l,(to,more))))=some r/\mO n s r.B:=by
 have hcl:=hb.commit;have adu:=hb.rows;have hc:=he.c;have hc2:=he.c2;have hdl:b.bV.length<2^30:=ah
 obtain⟨v,hv⟩:=aBQ (n:=n) (b:=b) (d:=e.ID) ah ah;obtain⟨⟨ver,rows,added⟩,h1,hI⟩:=aCD (b:=b) (e:=e) (to:=to) (more:=more) (k0:=b.Rows.length) hn hl hlt (fun r hr=>hb.row r (hlr r hr)) adu l.length 0 n v b.Rows [] ah ah ⟨rfl,aD,hb.row,fun r hr=>by cases hr⟩;dsimp only at hI;have hrl:=hI.rl;have hal:=hI.al;have fin:∀(vO:List Row),CI n s b.Rows.length (l.length+1) rows vO->∃r:bN,(bif decide ((wrap .i64 ((rows.length:Int)+(((vO.length:Nat):Int))))> (65536:Int)) then some ((⟨b,(2:Int)⟩:bN))else bif dB (((0:Nat))+b.bV.length) 8 then bif dB ((([]++b.bV).length)+([e.Day].length)) 8 then bif dB (((0:Nat))+rows.length) 112 then bif dB ((([]++rows).length)+vO.length) 112 then some ((⟨(⟨b.aJ,e.aS,e.Day,([]++b.bV)++[e.Day],([]++rows)++vO⟩:Book),(0:Int)⟩:bN))else none else none else none else none)=some r/\mO n s r.B:=by
  intro vO k1;have hl':=k1.al;rw[aBD ah];refine kr (fun _=>jC hb) (fun hx=>?_);have hx':rows.length+vO.length<=65536:=by have:=of_decide_eq_false hx;omega
  refine Mx (Mx (Mx (Mx ?_ eY) eY) eY) eY;refine jC ⟨hb.schema,?_,?_,?_,fun r hr=>?_⟩
  ·show e.aS=((([]++b.bV)++[e.Day]).length:Nat)
   rw[List.nil_append,RS,List.length_singleton];omega
  ·show (([]++b.bV)++[e.Day]).length<=_
   rw[List.nil_append,RS,List.length_singleton];omega
  ·show (([]++rows)++vO).length<=_
   rw[List.nil_append,RS];omega
  ·have hr':r∈([]++rows)++vO:=hr
   rw[List.nil_append] at hr';rcases nG.1 hr' with hr'|hr'
   ·exact k1.rg r hr'
   ·exact k1.ag r hr'
 rw[az0];refine eX ⟨v,hv,?_⟩;refine eX ⟨_,h1,?_⟩;dsimp only;refine kr (fun hid=>?_) (fun _=>fin added hI.next);generalize hw:wrap .i64 (ver+(1:Int))=w;obtain⟨er,her⟩:=anJ (n:=n) (s:=s) (e:=⟨more.ID,w,more.jg,more.kJ,more.From,more.To,more.iV,more.Vec,more.bU⟩) hs hm;refine eX ⟨er,by rw[hb.schema];exact her,?_⟩;refine kr (fun h0=>jC hb) (fun h0=>?_);have h0':er=0:=by simpa using h0
 rw[h0'] at her;refine Mx ?_ eY;have:=fin (added++[(⟨(⟨more.ID,w,more.jg,more.kJ,more.From,more.To,more.iV,more.Vec,more.bU⟩:Entry),(0:Int)⟩:Row)]) (hI.push ⟨hm,aCC ah hs hm her⟩);exact this
theorem aCE {n:Nat}{s:aJ}{b:Book}{e:Event}(hn:2^20<n)(hs:oz s n)(hb:mO n s b)(he:TF e n)(hv:MB b e):∃r:bN,VC n (b,e)=some r/\mO n s r.B:=by have hr:=hb.rows;obtain⟨h,hh⟩:=aBM (n:=n) (b:=b) (d:=e.ID) ah ah;rw[az1];refine eX ⟨h,hh,?_⟩;refine kr (fun _=>jC hb) (fun _=>?_);obtain⟨er,her⟩:=anJ (n:=n) (s:=s) (e:=⟨e.ID,(1:Int),e.jg,e.Day,e.Until,(1048577:Int),e.aS,e.Vec,e.bU⟩) hs he;refine eX ⟨er,by rw[hb.schema];exact her,?_⟩;refine kr (fun h0=>jC hb) (fun _=>?_);obtain⟨r,h1,h2⟩:=TG (l:=[]) (to:=[]) (more:=⟨e.ID,(1:Int),e.jg,e.Day,e.Until,(1048577:Int),e.aS,e.Vec,e.bU⟩) hn hs hb aD rfl aD he hv;exact eX ⟨r,h1,jC h2⟩
theorem adv {n:Nat}{l:List Row}(h:l≠[])(hb:l.length<2^62):∃x:Int,JP n l=some x:=by have hp:0<l.length:=wh.2 h;obtain⟨x,hx,_⟩:=Cj (l:=l) (i:=l.length-1) ah;exact⟨x.Entry.To,by rw[az3,ado hp hb];exact bs hx rfl⟩
theorem adw {L:Nat->List dD->Int->Option (List dD)}{l:List Row}(hl:l.length<=65536)(hs:∀m (i:Nat) (acc:List dD),i<l.length->acc.length=i->∃d,L (m+1) acc (i:Int)=L m (acc++[d]) ((i+1:Nat):Int))(hf:∀m acc,L (m+1) acc (l.length:Int)=some acc){n:Nat}(hn:l.length<n):∃to:List dD,L n [] (0:Int)=some to/\to.length=l.length:=by
 have key:∀(k i m:Nat)(acc:List dD),i+k=l.length->k<m->acc.length=i->∃to:List dD,L m acc (i:Int)=some to/\to.length=l.length:=by
  intro k;induction k with
  |zero=>
   intro i m acc hi hm ha;obtain⟨m,rfl⟩:∃m',m=m'+1:=⟨m-1,ah⟩;obtain rfl:i=l.length:=ah
   exact⟨acc,hf _ _,ha⟩
  |succ k ih=>intro i m acc hi hm ha;obtain⟨m,rfl⟩:∃m',m=m'+1:=⟨m-1,ah⟩;obtain⟨d,hd⟩:=hs m i acc ah ha;rw[hd];exact ih (i+1) m _ ah ah (by simp[ha])
 exact key l.length 0 n [] ah hn rfl
theorem adx {n:Nat}(hn:2^20<n):Tv (⟨(0:Int),(0:Int),(0:Int),(0:Int),(0:Int),(0:Int),(0:Int),[],[]⟩:Entry) n:=⟨eY,aD,eY,aD,aD,aD,fun x hx=>absurd hx List.not_mem_nil⟩
theorem aCF {n:Nat}{s:aJ}{b:Book}{e:Event}{l:List Row}(hn:2^20<n)(hs:oz s n)(hb:mO n s b)(he:TF e n)(hv:MB b e)(hne:l≠[])(hl:l.length<=65536)(hlr:∀r∈l,r∈b.Rows):∃r:bN,BS n (b,(e,l))=some r/\mO n s r.B:=by
 have hp:0<l.length:=wh.2 hne;obtain⟨x,hx,hxm⟩:=Cj (l:=l) (i:=0) hp;obtain⟨t,ht⟩:=adv (n:=n) hne ah;obtain⟨t',ht'⟩:=Mr (c:= !(decide (e.From< (0:Int)))) (o:=JP n l) (d:=(0:Int)) (fun _=>⟨t,ht⟩);obtain⟨to,h1,h2⟩:=adw (L:=fun m acc i=>Ga n b e l x m (acc,i)) (n:=n) hl (fun m i acc hi ha=>by
  obtain⟨y,hy,_⟩:=Cj (l:=l) (i:=i) hi;refine⟨⟨y.Entry.From,tV y.Entry.To (imax (imax e.From x.Entry.From) y.Entry.From)⟩,?_⟩;show Ga n b e l x (m+1) (acc,(i:Int))=_;rw[amY,decide_eq_true ah,cond_true];refine bs hy ?_;rw[gJ ah];exact X5 eY)
  (fun m acc=>by show Ga n b e l x (m+1) (acc,(l.length:Int))=_;rw[amY,sQ];rfl) ah
 obtain⟨r,h3,h4⟩:=TG (l:=l) (to:=to) (more:=⟨x.Entry.ID,x.Entry.iL,x.Entry.jg,x.Entry.kJ,imax e.From x.Entry.From,t,e.aS,e.Vec,e.bU⟩) hn hs hb hl h2 hlr he hv;rw[az4];refine eX ⟨x,hx,?_⟩;refine eX ⟨t',ht',?_⟩;refine kr (fun _=>jC hb) (fun _=>?_);refine eX ⟨to,h1,?_⟩;refine eX ⟨x,hx,?_⟩;refine eX ⟨t,ht,?_⟩;exact eX ⟨r,h3,jC h4⟩
theorem aCG {n:Nat}{s:aJ}{b:Book}{e:Event}{l:List Row}(hn:2^20<n)(hs:oz s n)(hb:mO n s b)(hv:MB b e)(hne:l≠[])(hl:l.length<=65536)(hlr:∀r∈l,r∈b.Rows):∃r:bN,BU n (b,(e,l))=some r/\mO n s r.B:=by
 obtain⟨t,ht⟩:=adv (n:=n) hne ah;obtain⟨to,h1,h2⟩:=adw (L:=fun m acc i=>Gb n b e l m (acc,i)) (n:=n) hl (fun m i acc hi ha=>by
  obtain⟨y,hy,_⟩:=Cj (l:=l) (i:=i) hi;refine⟨⟨y.Entry.From,tV y.Entry.To (imax e.From y.Entry.From)⟩,?_⟩;show Gb n b e l (m+1) (acc,(i:Int))=_;rw[amZ,decide_eq_true ah,cond_true];refine bs hy ?_;rw[gJ ah];exact X5 eY)
  (fun m acc=>by show Gb n b e l (m+1) (acc,(l.length:Int))=_;rw[amZ,sQ];rfl) ah
 obtain⟨r,h3,h4⟩:=TG (l:=l) (to:=to) hn hs hb hl h2 hlr (adx hn) hv;rw[az5];refine kr (fun _=>?_) (fun _=>jC hb);refine eX ⟨t,ht,?_⟩;refine kr (fun _=>jC hb) (fun _=>?_);refine eX ⟨to,h1,?_⟩;exact eX ⟨r,h3,jC h4⟩
theorem aCH {n:Nat}{s:aJ}{b:Book}{e:Event}{l:List Row}(hn:2^20<n)(hs:oz s n)(hb:mO n s b)(hv:MB b e)(hne:l≠[])(hl:l.length<=65536)(hlr:∀r∈l,r∈b.Rows):∃r:bN,BX n (b,(e,l))=some r/\mO n s r.B:=by
 have hp:0<l.length:=wh.2 hne;obtain⟨x,hx,hxm⟩:=Cj (l:=l) (i:=0) hp;obtain⟨t,ht⟩:=adv (n:=n) hne ah;obtain⟨to,h1,h2⟩:=adw (L:=fun m acc i=>Ed n b e l x m (acc,i)) (n:=n) hl (fun m i acc hi ha=>by
  obtain⟨y,hy,_⟩:=Cj (l:=l) (i:=i) hi;refine⟨bif bif (i:Int)==(0:Int) then decide (e.Until<x.Entry.From) else false then ⟨e.Until,y.Entry.To⟩ else ⟨imax y.Entry.From (tV e.Until y.Entry.To),y.Entry.To⟩,?_⟩;show Ed n b e l x (m+1) (acc,(i:Int))=_;rw[am0,decide_eq_true ah,cond_true];refine bs hy ?_;cases (bif (i:Int)==(0:Int) then decide (e.Until<x.Entry.From) else false)
  ·rw[cond_false,cond_false,gJ ah];exact X5 eY
  ·rw[cond_true,cond_true,gJ ah];exact X5 eY)
  (fun m acc=>by show Ed n b e l x (m+1) (acc,(l.length:Int))=_;rw[am0,sQ];rfl) ah
 obtain⟨r,h3,h4⟩:=TG (l:=l) (to:=to) hn hs hb hl h2 hlr (adx hn) hv;rw[az6];refine eX ⟨x,hx,?_⟩;refine kr (fun _=>jC hb) (fun _=>?_);refine kr (fun _=>?_) (fun _=>jC hb);refine eX ⟨t,ht,?_⟩;refine kr (fun _=>jC hb) (fun _=>?_);refine eX ⟨to,h1,?_⟩;exact eX ⟨r,h3,jC h4⟩
theorem aCI {n:Nat}{s:aJ}{b:Book}{e:Event}(hn:2^20<n)(hs:oz s n)(hb:mO n s b)(he:TF e n):∃r:bN,VM n (b,e)=some r/\mO n s r.B:=by
 have hcl:=hb.commit;have adu:=hb.rows;have hdl:=hb.days;rw[az7];refine kr (fun _=>jC hb) (fun hcond=>?_);have hw:wrap .i64 (b.aS+(1:Int))=b.aS+1:=by rw[hcl,IntKind.wrap_i64];omega
 rw[hw] at hcond;have hc:e.aS=b.aS+1:=by
  by_cases c:e.aS=b.aS+1
  ·exact c
  ·rw[bne_iff_ne.2 c] at hcond;simp at hcond
 have hc2:e.aS<=2^30:=by
  by_cases c:e.aS> (1073741824:Int)
  ·rw[decide_eq_true c] at hcond
   cases h:(e.aS !=b.aS+1)<;>rw[h] at hcond<;>simp at hcond
  ·omega
 have hv:MB b e:=⟨hc,hc2⟩;obtain⟨l,hl1,hl2,hl3⟩:=aCA (n:=n) (b:=b) (id:=e.ID) ah ah;have err:∀k:Int,k≠0->∃r:bN,some ((⟨b,k⟩:bN))=some r/\mO n s r.B:=fun k hk=>jC hb;have live:∃r:bN,((BR n ((b,e.ID))).bind fun (r5:List Row)=>bif (r5.length:Int)==(0:Int) then some ((⟨b,(5:Int)⟩:bN))else bif e.Kind==(2:Int) then (BS n ((b,(e,r5)))).bind fun (r6:bN)=>some r6 else bif e.Kind==(3:Int) then (BU n ((b,(e,r5)))).bind fun (r7:bN)=>some r7 else (BX n ((b,(e,r5)))).bind fun (r8:bN)=>some r8)=some r/\mO n s r.B:=by
  refine eX ⟨l,hl1,?_⟩;refine kr (fun _=>err 5 aX) (fun hne=>?_);have hne':l≠[]:=by rintro rfl;simp at hne
  have ady:l.length<=65536:=dJ hl2 adu;refine kr (fun _=>?_) (fun _=>kr (fun _=>?_) (fun _=>?_))
  ·obtain⟨r,h1,h2⟩:=aCF hn hs hb he hv hne' ady (fun r hr=>(hl3 r hr).1)
   exact eX ⟨r,h1,jC h2⟩
  ·obtain⟨r,h1,h2⟩:=aCG hn hs hb hv hne' ady (fun r hr=>(hl3 r hr).1)
   exact eX ⟨r,h1,jC h2⟩
  ·obtain⟨r,h1,h2⟩:=aCH hn hs hb hv hne' ady (fun r hr=>(hl3 r hr).1)
   exact eX ⟨r,h1,jC h2⟩
 refine kr (fun _=>?_) (fun hk=>kr (fun _=>?_) (fun _=>kr (fun _=>live) (fun _=>kr (fun _=>live) (fun _=>kr (fun _=>live) (fun _=>err 1 aX)))))
 ·obtain⟨r,h1,h2⟩:=aCE hn hs hb he hv
  exact eX ⟨r,h1,jC h2⟩
 ·obtain⟨r,h1,h2⟩:=TG (l:=[]) (to:=[]) hn hs hb aD rfl aD (adx hn) hv
  exact eX ⟨r,h1,jC h2⟩
def book0 (s:aJ):Book:=⟨s,0,0,[],[]⟩
theorem aCJ (n:Nat)(s:aJ):mO n s (book0 s):=⟨rfl,rfl,by simp[book0],by simp[book0],fun r hr=>by cases hr⟩
def adz (n:Nat)(s:aJ):Prop:=US n s=some ⟨book0 s,0⟩
theorem aCK {n:Nat}{s:aJ}(hn:2^20<n)(hs:oz s n):adz n s\/∃nw:bN,US n s=some nw/\nw.E≠0:=by
 obtain⟨e0,he0⟩:=anG hs ah;have e:US n s=_:=(amL n s).trans (bs he0 rfl);cases h:(e0 !=(0:Int))
 ·rw[h] at e;exact .inl e
 ·rw[h] at e;exact .inr ⟨_,e,xJ⟩
theorem aCL {n:Nat}{s:aJ}{l:List Event}(hn:2^20<n)(hs:oz s n)(hl:l.length<n)(hb:l.length<2^62)(he:∀e∈l,TF e n):∃f:fG,Kg n (s,l)=some f/\(adz n s->mO n s f.B):=by
 have key:∀(k i m:Nat)(f:fG)(bk:bN),i+k=l.length->k<m->bk.E=0->mO n s bk.B->∃q:(PUnit×fG×bN)⊕(PUnit×fG),Mf n l m ((i:Int),(f,bk))=some q/\(match q with
  |.inl q=>q.2.2.E=0/\mO n s q.2.2.B|.inr q=>mO n s q.2.B):=by
  intro k;induction k with
  |zero=>intro i m f bk hi hm hz hB;obtain⟨m,rfl⟩:∃m',m=m'+1:=⟨m-1,ah⟩;exact⟨.inl ((),(f,bk)),by rw[ac9,decide_eq_false ah];rfl,hz,hB⟩
  |succ k ih=>
   intro i m f bk hi hm hz hB;obtain⟨m,rfl⟩:∃m',m=m'+1:=⟨m-1,ah⟩;have hlt:i<l.length:=ah
   have hg:l[i]? =some l[i]:=jc hlt;obtain⟨r,g1,g2⟩:=aCI hn hs hB (he _ (jQ hlt));rw[ac9,jY hg,gJ ah];have hz':(bk.E==(0:Int))=true:=by rw[hz];rfl
   cases hr:(r.E !=(0:Int)) with
   |true=>exact⟨.inr ((),(⟨bk.B,(i:Int),r.E⟩:fG)),kK hz' (bs (eB hg) (bs g1 (kK hr rfl))),hB⟩|false=>obtain⟨q,h1,h2⟩:=ih (i+1) m f r ah ah (by simpa using hr) g2;exact⟨q,kK hz' (bs (eB hg) (bs g1 (kX hr h1))),h2⟩
 rw[az8];rcases aCK hn hs with h| ⟨nw,h,hE⟩
 ·obtain⟨q,h1,h2⟩:=key l.length 0 n ⟨⟨⟨0,0,[]⟩,0,0,[],[]⟩,0,0⟩ ⟨book0 s,0⟩ ah hl rfl (aCJ n s)
  refine eX ⟨_,h,eX ⟨q,h1,?_⟩⟩;cases q with
  |inl q=>refine kr (fun hz=>?_) (fun _=>jC fun _=>h2.2);have:=h2.1;rw[this] at hz;simp at hz
  |inr q=>exact jC fun _=>h2
 ·obtain⟨m,rfl⟩:∃m,n=m+1:=⟨n-1,ah⟩
  refine eX ⟨_,h,?_⟩;have hE':(nw.E==(0:Int))=false:=by rw[beq_eq_false_iff_ne];exact hE
  have e1:Mf (m+1) l (m+1) ((0:Int),((⟨⟨⟨0,0,[]⟩,0,0,[],[]⟩,0,0⟩:fG),nw))=some (.inl ((),(⟨⟨⟨0,0,[]⟩,0,0,[],[]⟩,0,0⟩,nw))):=by rw[ac9];refine kX ?_ rfl;show (bif decide ((0:Int)< (l.length:Int)) then nw.E==(0:Int) else false)=false;rw[hE'];cases decide ((0:Int)< (l.length:Int))<;>rfl
  refine eX ⟨_,e1,?_⟩;refine kr (fun _=>jC fun ho=>?_) (fun hz=>?_)
  ·have ho':US (m+1) s=some ⟨book0 s,0⟩:=ho
   rw[h] at ho';cases ho';exact absurd rfl hE
  ·exact absurd (by simpa using hz) hE
end Sh
end
section
open Go aR
namespace So
variable {α β:Type}
theorem iA {c:Bool}{o r:Option β}(h:c=true)(k:o=r):(bif c then o else none)=r:=zl
theorem kY {c:Bool}{a b r:β}(h:c=true)(k:a=r):(bif c then a else b)=r:=zl
theorem jZ {c:Bool}{a b r:β}(h:c=false)(k:b=r):(bif c then a else b)=r:=zl
theorem bd {γ:Type}{o:Option α}{a:α}{f:α->Option γ}{r:Option γ}(h:o=some a)(k:f a=r):o.bind f=r:=zl
theorem rH (P T:List α)(x:α){i:Int}(h:i=P.length):aN (P++x::T) i=some x:=by subst h;unfold aN;rw[if_pos ⟨ah,Cn⟩];simp
theorem set_mid (P T:List α)(x y:α){i:Int}(h:i=P.length):dH (P++x::T) i y=P++y::T:=by subst h;unfold dH;simp
theorem sS {l:List α}{i:Int}(h0:0<=i)(h1:i<l.length):decide (0<=i/\i< (l.length:Int))=true:=decide_eq_true ⟨h0,h1⟩
theorem wr {i:Int}(h0: -(2^62)<=i)(h:i<=2^62):wrap .i64 i=i:=zk
def TH (key:α->Int)(cmp:α×α->Option Int):Prop:=∀a b,∃r,cmp (a,b)=some r/\(r<0↔key a<key b)
def fP (key:α->Int)(l:List α):Prop:=l.Pairwise fun a b=>key a<=key b
def fD (key:α->Int)(s t:List α):Prop:=∀k:Int,s.filter (fun a=>key a==k)=t.filter (fun a=>key a==k)
def vP (key:α->Int)(x:α):List α->List α
 | []=>[x]|y::r=>if key x<key y then y::vP key x r else x::y::r
def sU (key:α->Int)(x:α)(S:List α):List α:=(vP key x S.reverse).reverse
theorem aCM (key:α->Int)(x y:α)(S:List α):sU key x (S++[y])=if key x<key y then sU key x S++[y] else S++[y]++[x]:=by
 unfold sU;rw[List.reverse_append];show (if key x<key y then y::vP key x S.reverse else x::y::S.reverse).reverse=_;split
 ·rw[List.reverse_cons]
 ·rw[List.reverse_cons,List.reverse_cons,List.reverse_reverse]
theorem aob (key:α->Int)(x:α):∀r:List α,(vP key x r).length=r.length+1
 | []=>rfl|y::r=>by
  unfold vP;split
  ·rw[List.length_cons,aob key x r,List.length_cons]
  ·rfl
theorem Yb (key:α->Int)(x:α)(S:List α):(sU key x S).length=S.length+1:=by unfold sU;rw[List.length_reverse,aob,List.length_reverse]
theorem aoc (key:α->Int)(x z:α):∀r:List α,z∈vP key x r↔z=x\/z∈r
 | []=>by simp[vP]|y::r=>by
  unfold vP;split
  ·rw[fV,aoc key x z r,fV]
   constructor
   ·rintro (h|h|h)
    ·exact .inr (.inl h)
    ·exact .inl h
    ·exact .inr (.inr h)
   ·rintro (h|h|h)
    ·exact .inr (.inl h)
    ·exact .inl h
    ·exact .inr (.inr h)
  ·rw[fV]
theorem aod (key:α->Int)(x:α):∀r:List α,r.Pairwise (fun a b=>key b<=key a)->(vP key x r).Pairwise (fun a b=>key b<=key a)
 | [],_=>by simp[vP]|y::r,h=>by
  rw[List.pairwise_cons] at h;unfold vP;split
  ·rename_i hlt
   rw[List.pairwise_cons];refine⟨fun z hz=>?_,aod key x r h.2⟩;rcases (aoc key x z r).1 hz with rfl|hz
   ·omega
   ·exact h.1 z hz
  ·rename_i hlt
   rw[List.pairwise_cons,List.pairwise_cons];refine⟨fun z hz=>?_,h⟩;rcases fV.1 hz with rfl|hz
   ·omega
   ·have:=h.1 z hz;omega
theorem aoe (key:α->Int)(x:α)(k:Int):∀r:List α,(vP key x r).filter (fun a=>key a==k)=(x::r).filter (fun a=>key a==k)
 | []=>rfl|y::r=>by
  unfold vP;split
  ·rename_i hlt
   rw[List.filter_cons,aoe key x k r];by_cases hy:key y=k
   ·have hx:¬key x=k:=ah
    simp[List.filter_cons,hx,hy]
   ·simp[List.filter_cons,hy]
  ·rfl
theorem aCN (key:α->Int)(x:α){S:List α}(h:fP key S):fP key (sU key x S):=by unfold fP sU at*;rw[List.pairwise_reverse];exact aod key x _ (by rw[List.pairwise_reverse];exact h)
theorem aCO (key:α->Int)(x:α)(S:List α):fD key (sU key x S) (S++[x]):=by intro k;unfold sU;rw[List.filter_reverse,aoe,<-List.filter_reverse,List.reverse_cons,List.reverse_reverse]
def AV (key:α->Int):List α->List α->List α
 |S,[]=>S|S,x::U=>AV key (sU key x S) U
theorem aof (key:α->Int):∀(U S:List α),fP key S->fP key (AV key S U)/\fD key (AV key S U) (S++U)/\(AV key S U).length=S.length+U.length
 | [],S,h=>⟨h,by rw[nV];exact fun _=>rfl,rfl⟩
 |x::U,S,h=>by
  obtain⟨h1,h2,h3⟩:=aof key U (sU key x S) (aCN key x h);refine⟨h1,fun k=>?_,?_⟩
  ·rw[show AV key S (x::U)=AV key (sU key x S) U from rfl,h2 k,xP,aCO key x S k,<-xP,jR];rfl
  ·rw[show AV key S (x::U)=AV key (sU key x S) U from rfl,h3,Yb,List.length_cons];omega
section
variable {key:α->Int}{cmp:α×α->Option Int}(hc:TH key cmp){L4:Int->Int->Int->Nat->Int×List α->Option (PUnit×List α)}(h4:∀(x1 x2 x4:Int) (m:Nat) (x6:Int) (x7:List α),L4 x1 x2 x4 (m+1) (x6,x7)=bif decide (x6>x1) then bif decide (0<=x6/\x6< (x7.length:Int)) then (aN x7 x6).bind fun (r8:α)=>bif decide (0<=(wrap .i64 (x6-(1:Int)))/\(wrap .i64 (x6-(1:Int)))< (x7.length:Int)) then (aN x7 (wrap .i64 (x6-(1:Int)))).bind fun (dI:α)=>(cmp (r8,dI)).bind fun (dh:Int)=>bif decide (dh< (0:Int)) then bif decide (0<=(wrap .i64 (x6-(1:Int)))/\(wrap .i64 (x6-(1:Int)))< (x7.length:Int)) then (aN x7 (wrap .i64 (x6-(1:Int)))).bind fun (dK:α)=>bif decide (0<=x6/\x6< (x7.length:Int)) then (aN x7 x6).bind fun (jJ:α)=>bif decide (0<=x6/\x6< (x7.length:Int)) then (aN x7 x6).bind fun (_:α)=>bif decide (0<=(wrap .i64 (x6-(1:Int)))/\(wrap .i64 (x6-(1:Int)))< (((dH x7 x6 dK).length:Nat):Int)) then (aN (dH x7 x6 dK) (wrap .i64 (x6-(1:Int)))).bind fun (_:α)=>
           L4 x1 x2 x4 m ((wrap .i64 (x6-(1:Int)),dH (dH x7 x6 dK) (wrap .i64 (x6-(1:Int))) jJ))else none else none else none else none else some (((),x7))else none else none else some (((),x7)))
include hc h4
theorem aCP {A:List α}{x:α}{x2 x4:Int}:∀(k:Nat)(S:List α),S.length=k->∀(T:List α)(m:Nat),(A++(S++x::T)).length<2^62->k<m->
 L4 A.length x2 x4 m (((A.length+S.length:Nat):Int),A++(S++x::T))=some ((),A++(sU key x S++T)):=by
 intro k;induction k with
 |zero=>intro S hS T m hb hm;obtain rfl:=mh hS;obtain⟨m,rfl⟩:∃m',m=m'+1:=⟨m-1,ah⟩;rw[h4];exact jZ aD rfl
 |succ k ih=>
  intro S hS T m hb hm;obtain⟨m,rfl⟩:∃m',m=m'+1:=⟨m-1,ah⟩;obtain⟨S,y,rfl⟩:∃S' y,S=S'++[y]:=by
   have hne:S≠[]:=by rintro rfl;simp at hS
   exact⟨S.dropLast,S.getLast hne,(List.dropLast_concat_getLast hne).symm⟩
  have hS':S.length=k:=by simpa using hS
  have hl:A++((S++[y])++x::T)=(A++S)++y::x::T:=aD
  have hl2:A++((S++[y])++x::T)=(A++S++[y])++x::T:=aD
  have hlen:((A.length+(S++[y]).length:Nat):Int)=((A++S++[y]).length:Nat):=by simp[sZ]
  have hb':(A++S).length+1+(x::T).length<2^62:=by rw[hl] at hb;simp only[RS,List.length_cons] at hb⊢;omega
  have hw:wrap .i64 (((A.length+(S++[y]).length:Nat):Int)-(1:Int))=((A++S).length:Nat):=by rw[wr ah MO];simp only[RS,List.length_cons,List.length_nil];omega
  have d1:decide ((0:Int)<=((A.length+(S++[y]).length:Nat):Int)/\((A.length+(S++[y]).length:Nat):Int)< (((A++((S++[y])++x::T)).length:Nat):Int))=true:=sS ah oD;have d2:decide ((0:Int)<=(((A++S).length:Nat):Int)/\(((A++S).length:Nat):Int)< (((A++((S++[y])++x::T)).length:Nat):Int))=true:=sS ah oD;have i1:aN (A++((S++[y])++x::T)) ((A.length+(S++[y]).length:Nat):Int)=some x:=by rw[hl2];exact rH _ _ _ hlen
  have i2:aN (A++((S++[y])++x::T)) (((A++S).length:Nat):Int)=some y:=by rw[hl];exact rH _ _ _ rfl
  have s1:dH (A++((S++[y])++x::T)) ((A.length+(S++[y]).length:Nat):Int) y=(A++S)++y::y::T:=by rw[hl2,set_mid _ _ _ _ hlen];simp
  obtain⟨r,hr,zh⟩:=hc x y;rw[h4,hw];refine kY (decide_eq_true eY) (iA d1 (bd i1 (iA d2 (bd i2 (bd hr ?_)))));rw[aCM];by_cases hk:key x<key y
  ·rw[if_pos hk]
   refine kY (decide_eq_true (zh.2 hk)) (iA d2 (bd i2 (iA d1 (bd i1 (iA d1 (bd i1 ?_))))));rw[s1];refine iA (sS ah eY) (bd (rH _ _ _ rfl) ?_);rw[set_mid _ _ _ _ rfl];have:=ih S hS' (y::T) m (by simp only[RS,List.length_cons] at hb'⊢;omega) ah;rw[show ((A.length+S.length:Nat):Int)=(((A++S).length:Nat):Int) by rw[RS]] at this;rw[jR,this];simp
  ·rw[if_neg hk]
   refine jZ (decide_eq_false fun h=>hk (zh.1 h)) ?_;simp
variable {n:Nat}{L1:Int->Int->Nat->Int×List α->Option (PUnit×List α)}(h1:∀(x1 x2:Int) (m:Nat) (x4:Int) (x5:List α),L1 x1 x2 (m+1) (x4,x5)=bif decide (x4<x2) then (L4 x1 x2 x4 n ((x4,x5))).bind fun (jK:PUnit×List α)=>
    L1 x1 x2 m ((wrap .i64 (x4+(1:Int)),jK.2))else some (((),x5)))
include h1
theorem aCQ {A B:List α}:∀(U S:List α)(m:Nat),(A++(S++(U++B))).length<2^62->U.length<m->(S++U).length<n->
 L1 A.length ((A.length+S.length+U.length:Nat):Int) m (((A.length+S.length:Nat):Int),A++(S++(U++B)))=some ((),A++(AV key S U++B)):=by
 intro U;induction U with
 |nil=>intro S m hb hm hn;obtain⟨m,rfl⟩:∃m',m=m'+1:=⟨m-1,ah⟩;rw[h1];exact jZ aD rfl
 |cons x U ih=>
  intro S m hb hm hn;obtain⟨m,rfl⟩:∃m',m=m'+1:=⟨m-1,ah⟩;rw[h1];refine kY (decide_eq_true Ub) (bd (aCP hc h4 S.length S rfl (U++B) n hb (by simp only[RS,List.length_cons] at hn;omega)) ?_);have:=ih (sU key x S) m (by simp only[RS,List.length_cons,Yb] at hb⊢;omega) (by simp only[List.length_cons] at hm;omega) (by simp only[RS,List.length_cons,Yb] at hn⊢;omega);rw[Yb] at this;rw[show ((A.length+S.length+(x::U).length:Nat):Int)=((A.length+(S.length+1)+U.length:Nat):Int) by rw[List.length_cons];omega,
   wr ah (by simp only[RS,List.length_cons] at hb;omega),show ((A.length+S.length:Nat):Int)+(1:Int)=((A.length+(S.length+1):Nat):Int) by omega]
  exact this
theorem aCR {A W B:List α}(hb:(A++(W++B)).length<2^61)(hn:W.length+1<n):∃W',fP key W'/\fD key W' W/\W'.length=W.length/\
 L1 A.length ((A.length+W.length:Nat):Int) n (wrap .i64 ((A.length:Nat)+(1:Int)),A++(W++B))=some ((),A++(W'++B)):=by
 have hA:A.length<2^61:=by simp only[RS] at hb;omega
 cases W with
 |nil=>obtain⟨m,rfl⟩:∃m',n=m'+1:=⟨n-1,ah⟩;refine⟨[],List.Pairwise.nil,fun _=>rfl,rfl,?_⟩;rw[h1,wr ah ah];exact jZ (decide_eq_false Ud) rfl
 |cons x U=>obtain⟨g1,g2,g3⟩:=aof key U [x] (List.pairwise_singleton _ _);refine⟨AV key [x] U,g1,g2,by rw[g3,List.length_cons,List.length_cons,List.length_nil];omega,?_⟩;have:=aCQ hc h4 h1 (A:=A) (B:=B) U [x] n (by simp only[RS,List.length_cons,List.length_nil] at hb⊢;omega) (by simp only[List.length_cons] at hn;omega) (by simp only[RS,List.length_cons,List.length_nil] at hn⊢;omega);rw[wr ah ah];rw[show ((A.length+(x::U).length:Nat):Int)=((A.length+[x].length+U.length:Nat):Int) by simp only[List.length_cons,List.length_nil];omega];exact this
end
end So
end
section
open Go aR
namespace So
variable {α:Type}
section
variable {L1:Int->Int->Int->Nat->Int×List α->Option (PUnit×List α)}(h1:∀(x1 x2 x3:Int) (m:Nat) (x5:Int) (x6:List α),L1 x1 x2 x3 (m+1) (x5,x6)=bif decide (x5<x3) then bif decide (0<=(wrap .i64 (x2+x5))/\(wrap .i64 (x2+x5))< (x6.length:Int)) then (aN x6 (wrap .i64 (x2+x5))).bind fun (r7:α)=>bif decide (0<=(wrap .i64 (x1+x5))/\(wrap .i64 (x1+x5))< (x6.length:Int)) then (aN x6 (wrap .i64 (x1+x5))).bind fun (r8:α)=>bif decide (0<=(wrap .i64 (x1+x5))/\(wrap .i64 (x1+x5))< (x6.length:Int)) then (aN x6 (wrap .i64 (x1+x5))).bind fun (dI:α)=>bif decide (0<=(wrap .i64 (x2+x5))/\(wrap .i64 (x2+x5))< (((dH x6 (wrap .i64 (x1+x5)) r7).length:Nat):Int)) then (aN (dH x6 (wrap .i64 (x1+x5)) r7) (wrap .i64 (x2+x5))).bind fun (dh:α)=>
        L1 x1 x2 x3 m ((wrap .i64 (x5+(1:Int)),dH (dH x6 (wrap .i64 (x1+x5)) r7) (wrap .i64 (x2+x5)) r8))else none else none else none else none else some (((),x6)))
include h1
theorem aog {A M B:List α}:∀(X2 mP gK X1:List α)(m:Nat),X2.length=mP.length->gK.length=X1.length->(A++(gK++X2)++M++(X1++mP)++B).length<2^61->X2.length<m->
 L1 A.length ((A.length+(gK.length+X2.length)+M.length:Nat):Int) ((gK.length+X2.length:Nat):Int) m ((gK.length:Nat),A++(gK++X2)++M++(X1++mP)++B)=some ((),A++(gK++mP)++M++(X1++X2)++B)
 | [],[],gK,X1,m,_,_,_,hm=>by obtain⟨m,rfl⟩:∃m',m=m'+1:=⟨m-1,ah⟩;rw[h1];exact jZ (decide_eq_false Ud) rfl
 |x::X2,y::mP,gK,X1,m,h2,h3,hb,hm=>by
  obtain⟨m,rfl⟩:∃m',m=m'+1:=⟨m-1,ah⟩;simp only[RS,List.length_cons] at hb h2 hm;rw[h1];have ea:wrap .i64 ((A.length:Int)+(gK.length:Int))=((A++gK).length:Nat):=by rw[wr ah ah];simp
  have eb:wrap .i64 (((A.length+(gK.length+(x::X2).length)+M.length:Nat):Int)+(gK.length:Int))=((A++(gK++x::X2)++M++X1).length:Nat):=by rw[wr ah Ub];simp only[RS,List.length_cons];omega
  have el:A++(gK++x::X2)++M++(X1++y::mP)++B=(A++gK)++x::(X2++M++X1++y::(mP++B)):=aD
  have er:A++(gK++x::X2)++M++(X1++y::mP)++B=(A++(gK++x::X2)++M++X1)++y::(mP++B):=aD
  have ia:aN (A++(gK++x::X2)++M++(X1++y::mP)++B) (((A++gK).length:Nat):Int)=some x:=by rw[el];exact rH _ _ _ rfl
  have ib:aN (A++(gK++x::X2)++M++(X1++y::mP)++B) (((A++(gK++x::X2)++M++X1).length:Nat):Int)=some y:=by rw[er];exact rH _ _ _ rfl
  have sa:dH (A++(gK++x::X2)++M++(X1++y::mP)++B) (((A++gK).length:Nat):Int) y=(A++(gK++y::X2)++M++X1)++y::(mP++B):=by rw[el,set_mid _ _ _ _ rfl];simp
  have aCS:(((A++(gK++x::X2)++M++X1).length:Nat):Int)=(((A++(gK++y::X2)++M++X1).length:Nat):Int):=aD
  have d1:decide ((0:Int)<=(((A++gK).length:Nat):Int)/\(((A++gK).length:Nat):Int)< (((A++(gK++x::X2)++M++(X1++y::mP)++B).length:Nat):Int))=true:=sS ah Cn;have d2:decide ((0:Int)<=(((A++(gK++x::X2)++M++X1).length:Nat):Int)/\(((A++(gK++x::X2)++M++X1).length:Nat):Int)< (((A++(gK++x::X2)++M++(X1++y::mP)++B).length:Nat):Int))=true:=sS ah Cn;refine kY (decide_eq_true Ub) ?_;rw[ea,eb];refine iA d2 (bd ib (iA d1 (bd ia (iA d1 (bd ia ?_)))));rw[sa,aCS];refine iA (sS ah Cn) (bd (rH _ _ _ rfl) ?_);rw[set_mid _ _ _ _ rfl];have:=aog (A:=A) (M:=M) (B:=B) X2 mP (gK++[y]) (X1++[x]) m ah (by simp[h3]) oD ah;rw[wr ah ah];simp only[RS,List.length_cons,List.length_nil,jR,List.cons_append,List.nil_append] at this⊢;rw[show ((A.length+(gK.length+(X2.length+1))+M.length:Nat):Int)=((A.length+(gK.length+(0+1)+X2.length)+M.length:Nat):Int) by omega,show ((gK.length+(X2.length+1):Nat):Int)=((gK.length+(0+1)+X2.length:Nat):Int) by omega];exact this
end
section
variable {n:Nat}{TI:Unit×Int×Int×Int×(Unit×Unit)->List α->Option (PUnit×List α)}(hs:∀(A X M Y B:List α),X.length=Y.length->(A++X++M++Y++B).length<2^61->X.length<n->TI ((),(A.length:Int),((A.length+X.length+M.length:Nat):Int),(X.length:Int),((),())) (A++X++M++Y++B)=some ((),A++Y++M++X++B)){L2:Int->Nat->(Int×Int)×List α->Option (Int×List α)}(h2:∀(x2:Int) (m:Nat) (x5 x6:Int) (x7:List α),L2 x2 (m+1) ((x5,x6),x7)=bif x5 !=x6 then bif decide (x5>x6) then (TI (((),(wrap .i64 (x2-x5),(x2,(x6,((),())))))) x7).bind fun (r8:PUnit×List α)=>
     L2 x2 m (((wrap .i64 (x5-x6),x6),r8.2))else (TI (((),(wrap .i64 (x2-x5),(wrap .i64 ((wrap .i64 (x2+x6))-x5),(x5,((),())))))) x7).bind fun (dI:PUnit×List α)=>
     L2 x2 m (((x5,wrap .i64 (x6-x5)),dI.2))else some ((x5,x7)))
include hs h2
theorem aCT {A B:List α}{m0:Int}:∀(k:Nat)(P X Y Q:List α)(m:Nat),X.length+Y.length=k->0<X.length->0<Y.length->m0=(A.length+P.length+X.length:Nat)->(A++(P++X++Y++Q)++B).length<2^61->k<m->k<n->
 ∃(P' X' Y' Q':List α),L2 m0 m (((X.length:Int),(Y.length:Int)),A++(P++X++Y++Q)++B)=some (((X'.length:Nat):Int),A++(P'++X'++Y'++Q')++B)/\X'.length=Y'.length/\m0=(A.length+P'.length+X'.length:Nat)/\P'++Y'++X'++Q'=P++Y++X++Q/\X'.length<=k:=by
 intro k;induction k using Nat.strongRecOn with
 |_ k ih=>
  intro P X Y Q m hk hx hy hm0 hb hm hn;obtain⟨m,rfl⟩:∃m',m=m'+1:=⟨m-1,ah⟩;simp only[RS] at hb;rw[h2];by_cases e:X.length=Y.length
  ·refine⟨P,X,Y,Q,jZ zn rfl,e,hm0,rfl,ah⟩
  ·rcases Nat.lt_or_gt_of_ne e with hlt|hgt
   ·
    have hY:=(tq (Y.length-X.length) Y).symm;generalize aCU:Y.take (Y.length-X.length)=gK at hY;generalize hY2:Y.drop (Y.length-X.length)=mP at hY;have l1:gK.length=Y.length-X.length:=(by rw[<-aCU,j3];omega);have l2:mP.length=X.length:=(by rw[<-hY2,vZ];omega);have sp:=hs (A++P) X gK mP (Q++B) l2.symm o9 ah;obtain⟨P',X',Y',Q',g1,g2,g3,g4,g5⟩:=ih (mP.length+gK.length) ah P mP gK (X++Q) m rfl ah ah ah o9 ah ah;refine⟨P',X',Y',Q',kY (by simp[e];omega) (jZ (decide_eq_false ah) (bd (a:=((),A++P++mP++gK++X++(Q++B))) ?_ ?_)),g2,g3,?_,ah⟩
    ·rw[wr (i:=m0-(X.length:Int)) ah ah,wr (i:=m0+(Y.length:Int)) ah ah,wr (i:=m0+(Y.length:Int)-(X.length:Int)) ah ah,
      show m0-(X.length:Int)=((A++P).length:Nat) by rw[hm0];simp only[RS];omega,show m0+(Y.length:Int)-(X.length:Int)=(((A++P).length+X.length+gK.length:Nat):Int) by rw[hm0];simp only[RS];omega]
     rw[show A++(P++X++Y++Q)++B=A++P++X++gK++mP++(Q++B) by rw[hY];simp];exact sp
    ·rw[wr ah ah,show (Y.length:Int)-(X.length:Int)=(gK.length:Int) by omega,<-l2]
     rw[<-g1];simp
    ·rw[g4,hY];simp
   ·
    have hX:=(tq Y.length X).symm;generalize hX1:X.take Y.length=X1 at hX;generalize hX2:X.drop Y.length=X2 at hX;have l1:X1.length=Y.length:=(by rw[<-hX1,j3];omega);have l2:X2.length=X.length-Y.length:=(by rw[<-hX2,vZ]);have sp:=hs (A++P) X1 X2 Y (Q++B) l1 o9 ah;obtain⟨P',X',Y',Q',g1,g2,g3,g4,g5⟩:=ih (X2.length+X1.length) ah (P++Y) X2 X1 Q m rfl ah ah (by rw[hm0];simp only[RS];omega) o9 ah ah;refine⟨P',X',Y',Q',kY (by simp[e];omega) (kY (decide_eq_true ah) (bd (a:=((),A++P++Y++X2++X1++(Q++B))) ?_ ?_)),g2,g3,?_,ah⟩
    ·rw[wr (i:=m0-(X.length:Int)) ah ah,
      show m0-(X.length:Int)=((A++P).length:Nat) by rw[hm0];simp only[RS];omega,show m0=(((A++P).length+X1.length+X2.length:Nat):Int) by rw[hm0];simp only[RS];omega,<-l1]
     rw[show A++(P++X++Y++Q)++B=A++P++X1++X2++Y++(Q++B) by rw[hX];simp];exact sp
    ·rw[wr ah ah,show (X.length:Int)-(Y.length:Int)=(X2.length:Int) by omega,<-l1]
     rw[<-g1];simp
    ·rw[g4,hX];simp
theorem aCV {A U V B:List α}(hu:0<U.length)(hv:0<V.length)(hb:(A++(U++V)++B).length<2^61)(hn:U.length+V.length<n):((L2 ((A.length+U.length:Nat):Int) n (((U.length:Int),(V.length:Int)),A++(U++V)++B)).bind fun (dh:Int×List α)=>(TI (((),(wrap .i64 (((A.length+U.length:Nat):Int)-dh.1),(((A.length+U.length:Nat):Int),(dh.1,((),())))))) dh.2).bind fun (dK:PUnit×List α)=>some (((),dK.2):PUnit×List α))=some ((),A++(V++U)++B):=by
 obtain⟨P',X',Y',Q',g1,g2,g3,g4,g5⟩:=aCT hs h2 (A:=A) (B:=B) (m0:=((A.length+U.length:Nat):Int)) _ [] U V [] n rfl hu hv aD GD hn hn;have hl:=congrArg List.length g4;simp only[RS,List.length_nil,nH,Nat.add_zero] at hl hb;refine bd (a:=(((X'.length:Nat):Int),A++(P'++X'++Y'++Q')++B)) (by rw[<-g1];simp) ?_;have sp:=hs (A++P') X' [] Y' (Q'++B) g2 (by simp only[RS,List.length_nil];omega) ah;rw[wr ah ah];refine bd (a:=((),A++P'++Y'++[]++X'++(Q'++B))) ?_ ?_
 ·rw[show ((A.length+U.length:Nat):Int)-((X'.length:Nat):Int)=((A++P').length:Nat) by rw[g3];simp only[RS];omega,show ((A.length+U.length:Nat):Int)=(((A++P').length+X'.length+([]:List α).length:Nat):Int) by rw[g3];simp only[RS,List.length_nil];omega]
  rw[show A++(P'++X'++Y'++Q')++B=A++P'++X'++[]++Y'++(Q'++B) by simp];exact sp
 ·have:A++P'++Y'++[]++X'++(Q'++B)=A++(P'++Y'++X'++Q')++B:=aD
  rw[this,g4];simp
end
end So
end
section
open Go aR
namespace So
variable {α:Type}
theorem aCW {a:Int}(h0:0<=a)(h:a<2^62):wrap .i64 (aQ .u64 (wrap .u64 (wrap .i64 a)) (1:Int))=a/2:=by rw[show wrap .i64 a=a from wr ah ah,IntKind.wrap_u64];have e:aQ .u64 (a% 18446744073709551616) 1=(a% 18446744073709551616).fdiv (2^1):=rfl;rw[e,Int.fdiv_eq_ediv_of_nonneg _ ah];rw[wr ah ah];omega
theorem bsearch {L:Nat->Int×Int->Option Int}(P:Nat->Prop)(lo hi:Nat)(hstep:∀(m i j:Nat),lo<=i->i<j->j<=hi->(P ((i+j)/2)->L (m+1) ((i:Int),(j:Int))=L m ((((i+j)/2+1:Nat):Int),(j:Int)))/\(¬P ((i+j)/2)->L (m+1) ((i:Int),(j:Int))=L m ((i:Int),(((i+j)/2:Nat):Int))))(hend:∀(m i:Nat),L (m+1) ((i:Int),(i:Int))=some (i:Int)):∀(k i j m:Nat),lo<=i->i<=j->j<=hi->j-i=k->k<m->∃r:Nat,L m ((i:Int),(j:Int))=some (r:Int)/\i<=r/\r<=j/\(i<r->P (r-1))/\(r<j->¬P r):=by
 intro k;induction k using Nat.strongRecOn with
 |_ k ih=>
  intro i j m hl hij hh hk hm;obtain⟨m,rfl⟩:∃m',m=m'+1:=⟨m-1,ah⟩;rcases Nat.eq_or_lt_of_le hij with rfl|hlt
  ·exact⟨i,hend m i,iP _,iP _,fun h=>absurd h (Nat.lt_irrefl _),fun h=>absurd h (Nat.lt_irrefl _)⟩
  ·obtain⟨s1,s2⟩:=hstep m i j hl hlt hh
   by_cases hp:P ((i+j)/2)
   ·obtain⟨r,h1,h2,h3,h4,h5⟩:=ih (j-((i+j)/2+1)) ah ((i+j)/2+1) j m ah ah hh rfl ah
    refine⟨r,(s1 hp).trans h1,ah,h3,fun _=>?_,h5⟩;rcases Nat.eq_or_lt_of_le h2 with e|e
    ·rw[<-e];exact hp
    ·exact h4 e
   ·obtain⟨r,h1,h2,h3,h4,h5⟩:=ih ((i+j)/2-i) ah i ((i+j)/2) m hl ah ah rfl ah
    refine⟨r,(s2 hp).trans h1,h2,ah,h4,fun _=>?_⟩;rcases Nat.eq_or_lt_of_le h3 with e|e
    ·rw[e];exact hp
    ·exact h5 e
theorem Yc {l:List α}{i:Nat}{x:α}(h:l[i]? =some x):aN l (i:Int)=some x:=by
 have hi:i<l.length:=by rw[qm] at h;exact h.1
 unfold aN;rw[if_pos ⟨ah,ah⟩];simpa using h
theorem MC {l:List α}{i:Nat}(h:i<l.length):decide ((0:Int)<=(i:Int)/\(i:Int)< (l.length:Int))=true:=sS ah ah
theorem fP.le {key:α->Int}{l:List α}(h:fP key l){i j:Nat}{x y:α}(hij:i<=j)(hx:l[i]? =some x)(hy:l[j]? =some y):key x<=key y:=by
 rw[qm] at hx hy;obtain⟨h1,rfl⟩:=hx;obtain⟨h2,rfl⟩:=hy;rcases Nat.eq_or_lt_of_le hij with rfl|hlt
 ·exact Int.le_refl _
 ·exact(List.pairwise_iff_getElem.1 h) i j h1 h2 hlt
section
variable {uF:Nat->Int->Nat->Int×List α->Option (PUnit×List α)}(h9:∀(g:Nat) (dh:Int) (m:Nat) (dN:Int) (gI:List α),uF g dh (m+1) (dN,gI)=bif decide (dN< (wrap .i64 (dh-(1:Int)))) then bif decide (0<=(wrap .i64 (dN+(1:Int)))/\(wrap .i64 (dN+(1:Int)))< (gI.length:Int)) then (aN gI (wrap .i64 (dN+(1:Int)))).bind fun (lK:α)=>bif decide (0<=dN/\dN< (gI.length:Int)) then (aN gI dN).bind fun (iX:α)=>bif decide (0<=dN/\dN< (gI.length:Int)) then (aN gI dN).bind fun (jK:α)=>bif decide (0<=(wrap .i64 (dN+(1:Int)))/\(wrap .i64 (dN+(1:Int)))< (((dH gI dN lK).length:Nat):Int)) then (aN (dH gI dN lK) (wrap .i64 (dN+(1:Int)))).bind fun (r16:α)=>
        uF g dh m ((wrap .i64 (dN+(1:Int)),dH (dH gI dN lK) (wrap .i64 (dN+(1:Int))) iX))else none else none else none else none else some (((),gI)))
include h9
theorem fwd {g:Nat}{x:α}{B:List α}:∀(V A:List α)(m:Nat),(A++x::(V++B)).length<2^61->V.length<m->
 uF g ((A.length+1+V.length:Nat):Int) m ((A.length:Int),A++x::(V++B))=some ((),A++(V++x::B))
 | [],A,m,hb,hm=>by obtain⟨m,rfl⟩:∃m',m=m'+1:=⟨m-1,ah⟩;simp only[RS,List.length_cons] at hb;rw[h9,show wrap .i64 (((A.length+1+([]:List α).length:Nat):Int)-(1:Int))=(A.length:Int) by rw[wr ah Ud];simp only[List.length_nil];omega];exact jZ (decide_eq_false ah) rfl
 |y::V,A,m,hb,hm=>by
  obtain⟨m,rfl⟩:∃m',m=m'+1:=⟨m-1,ah⟩;simp only[RS,List.length_cons] at hb hm;have e1:wrap .i64 ((A.length:Int)+(1:Int))=((A++[x]).length:Nat):=by rw[wr ah ah];simp
  have el:A++x::((y::V)++B)=(A++[x])++y::(V++B):=aD
  rw[h9,e1,show wrap .i64 (((A.length+1+(y::V).length:Nat):Int)-(1:Int))=((A.length+1+V.length:Nat):Int) by rw[wr ah Ub];simp only[List.length_cons];omega];refine kY (decide_eq_true ah) ?_;refine iA (sS ah oD) (bd (a:=y) (by rw[el];exact rH _ _ _ rfl) ?_);refine iA (sS ah oD) (bd (a:=x) (rH _ _ _ rfl) ?_);refine iA (sS ah oD) (bd (a:=x) (rH _ _ _ rfl) ?_);rw[set_mid _ _ _ _ rfl,show A++y::((y::V)++B)=(A++[y])++y::(V++B) by simp,show (((A++[x]).length:Nat):Int)=(((A++[y]).length:Nat):Int) by simp];refine iA (sS ah oD) (bd (rH _ _ _ rfl) ?_);rw[set_mid _ _ _ _ rfl];have:=fwd (g:=g) (x:=x) (B:=B) V (A++[y]) m oD ah;rw[show ((A.length+1+(y::V).length:Nat):Int)=(((A++[y]).length+1+V.length:Nat):Int) by simp only[RS,List.length_cons,List.length_nil];omega,this];simp
end
section
variable {El:Nat->Int->Nat->Int×List α->Option (PUnit×List α)}(h21:∀(g:Nat) (ou:Int) (m:Nat) (x24:Int) (x25:List α),El g ou (m+1) (x24,x25)=bif decide (x24>ou) then bif decide (0<=(wrap .i64 (x24-(1:Int)))/\(wrap .i64 (x24-(1:Int)))< (x25.length:Int)) then (aN x25 (wrap .i64 (x24-(1:Int)))).bind fun (y5:α)=>bif decide (0<=x24/\x24< (x25.length:Int)) then (aN x25 x24).bind fun (SH:α)=>bif decide (0<=x24/\x24< (x25.length:Int)) then (aN x25 x24).bind fun (am4:α)=>bif decide (0<=(wrap .i64 (x24-(1:Int)))/\(wrap .i64 (x24-(1:Int)))< (((dH x25 x24 y5).length:Nat):Int)) then (aN (dH x25 x24 y5) (wrap .i64 (x24-(1:Int)))).bind fun (am5:α)=>
        El g ou m ((wrap .i64 (x24-(1:Int)),dH (dH x25 x24 y5) (wrap .i64 (x24-(1:Int))) SH))else none else none else none else none else some (((),x25)))
include h21
theorem bwd {g:Nat}{x:α}{A:List α}:∀(k:Nat)(U B:List α)(m:Nat),U.length=k->(A++(U++x::B)).length<2^61->U.length<m->
 El g (A.length:Int) m (((A.length+U.length:Nat):Int),A++(U++x::B))=some ((),A++(x::(U++B))):=by
 intro k;induction k with
 |zero=>intro U B m hU hb hm;obtain rfl:=mh hU;obtain⟨m,rfl⟩:∃m',m=m'+1:=⟨m-1,ah⟩;rw[h21];exact jZ (decide_eq_false Ud) rfl
 |succ k ih=>
  intro U B m hU hb hm;obtain⟨m,rfl⟩:∃m',m=m'+1:=⟨m-1,ah⟩;obtain⟨U,y,rfl⟩:∃S' y,U=S'++[y]:=by
   have hne:U≠[]:=by rintro rfl;simp at hU
   exact⟨U.dropLast,U.getLast hne,(List.dropLast_concat_getLast hne).symm⟩
  simp only[RS,List.length_cons,List.length_nil] at hb hm hU;have e1:wrap .i64 (((A.length+(U++[y]).length:Nat):Int)-(1:Int))=((A++U).length:Nat):=by rw[wr ah oD];simp only[RS,List.length_cons,List.length_nil];omega
  have e2:((A.length+(U++[y]).length:Nat):Int)=((A++U++[y]).length:Nat):=oD
  have el:A++((U++[y])++x::B)=(A++U)++y::x::B:=aD
  have er:A++((U++[y])++x::B)=(A++U++[y])++x::B:=aD
  rw[h21,e1];refine kY (decide_eq_true oD) ?_;refine iA (sS ah oD) (bd (a:=y) (by rw[el];exact rH _ _ _ rfl) ?_);refine iA (sS ah oD) (bd (a:=x) (by rw[er];exact rH _ _ _ e2) ?_);refine iA (sS ah oD) (bd (a:=x) (by rw[er];exact rH _ _ _ e2) ?_);rw[er,set_mid _ _ _ _ e2,show A++U++[y]++y::B=(A++U)++y::y::B by simp];refine iA (sS ah oD) (bd (rH _ _ _ rfl) ?_);rw[set_mid _ _ _ _ rfl];have:=ih U (y::B) m ah oD ah;rw[show (((A++U).length:Nat):Int)=((A.length+U.length:Nat):Int) by rw[RS],jR,this];simp
end
end So
end
