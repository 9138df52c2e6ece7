import Derived.Test.YthadiihdjhakdaaGreatF2921
set_option linter.all false
open Go.IntKind (wrap)
section
open Go Go.Proofs aY
namespace Sh
variable {fit:List Int->List Attr->Int}
theorem Xh {d:fq}{c id:Int}{l K V:List Row}(h:Cut d c (gM l id) K V):dN (some d) l id c=V:=by
 have h1:((l.filter (dI id)).filterMap (kC d c)).Perm V:=by rw[<-h.ac2];exact((Xd l id).symm.filterMap _)
 exact akQ ((So.acX _).trans h1) h.one
theorem QL {ent:Entry->Int}{d:Option fq}{more:Option Entry}{b c:Book}{e:Event}(h:jV ent d more b e=(c,0)):c=tu b e d (dN d b.Rows e.ID e.aB++Bj more)/\(∀x,more=some x->ent (jY (bO b.Rows e.ID+((dN d b.Rows e.ID e.aB).length:Int)+1) x)=0)/\b.Rows.length+(dN d b.Rows e.ID e.aB++Bj more).length<=65536:=by
 unfold jV at h;dsimp only at h;generalize he:Xc ent (bO b.Rows e.ID+((dN d b.Rows e.ID e.aB).length:Int)+1) more=err at h;cases h1:(err !=0)
 ·rw[h1,cond_false,xk] at h
  have h1':err=0:=Br
  cases h2:decide (65536<b.Rows.length+(dN d b.Rows e.ID e.aB++Bj more).length)
  ·rw[h2,cond_false] at h
   have h2':=of_decide_eq_false h2;refine⟨(Prod.mk.inj h).1.symm,fun x hx=>?_,ah⟩;subst hx;rw[<-h1',<-he];rfl
  ·rw[h2] at h
   exact absurd (Prod.mk.inj h).2 eO
 ·rw[h1,cond_true] at h
  have:=(Prod.mk.inj h).2;rw[this] at h1;cases h1
theorem azb {ent:Entry->Int}{d:Option fq}{more:Option Entry}{b c:Book}{e:Event}{k:Int}(h:jV ent d more b e=(c,k))(hk:k≠0):c=b:=by
 unfold jV at h;dsimp only at h;generalize Xc ent (bO b.Rows e.ID+((dN d b.Rows e.ID e.aB).length:Int)+1) more=err at h;cases h1:(err !=0)
 ·rw[h1,cond_false] at h
  generalize decide (65536<b.Rows.length+(fD (bO b.Rows e.ID) (dN d b.Rows e.ID e.aB++Bj more)).length)=q at h;cases q
  ·exact absurd (Prod.mk.inj h).2.symm hk
  ·exact(Prod.mk.inj h).1.symm
 ·rw[h1] at h
  exact(Prod.mk.inj h).1.symm
theorem azc {ent:Entry->Int}{b c:Book}{e:Event}{k:Int}(h:ug ent b e=(c,k))(hk:k≠0):c=b:=by
 have key:∀{q:Bool}{x y:Book×Int},(bif q then x else y)=(c,k)->(x=(c,k)->c=b)->(y=(c,k)->c=b)->c=b:=fun {q x y} h h1 h2=>by
  cases q
  ·exact h2 h
  ·exact h1 h
 have e0:∀{z:Int},(b,z)=(c,k)->c=b:=fun h=>(Prod.mk.inj h).1.symm;have ce:∀{d more},jV ent d more b e=(c,k)->c=b:=fun h=>azb h hk;unfold ug at h;refine key h e0 fun h=>key h e0 fun h=>key h (fun h=>key h e0 ce) fun h=>key h ce fun h=>?_;split at h
 ·exact e0 h
 ·exact key h (fun h=>key h e0 ce) fun h=>key h (fun h=>key h e0 ce) fun h=>key h e0 fun h=>key h e0 ce
inductive Kind (b:Book)(e:Event):Option fq->List Row->List Row->Prop
 |turn (hk:e.Kind=5):Kind b e none [] (gM b.Rows e.ID)
 |file (hk:e.Kind=1) (hn:∀r∈b.Rows,r.Entry.ID≠e.ID):Kind b e none [⟨⟨e.ID,0,e.bP,e.Day,e.Until,1048577,e.aB,e.Vec,e.aQ⟩,0⟩] (fD (bO b.Rows e.ID) [⟨⟨e.ID,0,e.bP,e.Day,e.Until,1048577,e.aB,e.Vec,e.aQ⟩,0⟩])
 |correct {x:Row} {l K V:List Row} {z:Int} (hk:e.Kind=2) (hl:gM b.Rows e.ID=x::l) (hp:Path x.Entry.From (x::l) z) (hf:0<=e.From) (hz:imax e.From x.Entry.From<z)
   (hc:Cut (gN (imax e.From x.Entry.From)) e.aB (x::l) K V) (hp2:Path x.Entry.From (K++V) (imax e.From x.Entry.From)) (hV:∀r∈V,∃m∈x::l,r=⟨⟨m.Entry.ID,m.Entry.dw,m.Entry.bP,m.Entry.dn,m.Entry.From,imax e.From x.Entry.From,e.aB,m.Entry.Vec,m.Entry.aQ⟩,0⟩/\m.Entry.From<imax e.From x.Entry.From/\imax e.From x.Entry.From<m.Entry.To):
   Kind b e (some (gN (imax e.From x.Entry.From))) (V++[⟨⟨x.Entry.ID,x.Entry.dw,x.Entry.bP,x.Entry.dn,imax e.From x.Entry.From,z,e.aB,e.Vec,e.aQ⟩,0⟩]) (K++fD (bO b.Rows e.ID) (V++[⟨⟨x.Entry.ID,x.Entry.dw,x.Entry.bP,x.Entry.dn,imax e.From x.Entry.From,z,e.aB,e.Vec,e.aQ⟩,0⟩]))
 |akU {x:Row} {l K V:List Row} {z:Int} (hk:e.Kind=3) (hl:gM b.Rows e.ID=x::l) (hp:Path x.Entry.From (x::l) z) (hf:0<=e.From) (hz:e.From<z)
   (hc:Cut (gN e.From) e.aB (x::l) K V) (hp2:∃q,Path x.Entry.From (K++V) q/\(x.Entry.From<=e.From->q=e.From)) (hf2:e.From<=x.Entry.From->K++V=[]) (hV:∀r∈V,∃m∈x::l,r=⟨⟨m.Entry.ID,m.Entry.dw,m.Entry.bP,m.Entry.dn,m.Entry.From,e.From,e.aB,m.Entry.Vec,m.Entry.aQ⟩,0⟩/\m.Entry.From<e.From/\e.From<m.Entry.To):
   Kind b e (some (gN e.From)) V (K++fD (bO b.Rows e.ID) V)
 |KP {x:Row} {l K V:List Row} {z:Int} (hk:e.Kind=4) (hl:gM b.Rows e.ID=x::l) (hp:Path x.Entry.From (x::l) z) (ho:e.Day<x.Entry.From) (hne:x.Entry.From≠e.Until) (hu:e.Day<=e.Until) (hz:e.Until<z)
   (hc:Cut (iH x.Entry.From e.Until) e.aB (x::l) K V) (hp2:Path e.Until (V++K) z) (hV:∀r∈V,∃m∈x::l,r=⟨⟨m.Entry.ID,m.Entry.dw,m.Entry.bP,m.Entry.dn,e.Until,m.Entry.To,e.aB,m.Entry.Vec,m.Entry.aQ⟩,0⟩/\e.Until<m.Entry.To):
   Kind b e (some (iH x.Entry.From e.Until)) V (fD (bO b.Rows e.ID) V++K)
structure Stp (fit:List Int->List Attr->Int)(b:Book)(e:Event)(c:Book)(d:Option fq)(X N:List Row):Prop where
 com:e.aB=b.aB+1
 QJ:e.aB<=1073741824
 day:b.Day<=e.Day
 ay3:e.Day<=1048576
 out:c=tu b e d X
 len:b.Rows.length+X.length<=65536
 kind:Kind b e d X N
 new:∀r∈X,r.fH=0/\r.Entry.ID=e.ID/\r.Entry.dH=e.aB/\r.Entry.dn<=e.Day/\∀w,1<=w->w<=1073741824->Bl fit (jY w r.Entry)
 inv:Inv fit c
 live:gM c.Rows e.ID=N
 other:∀id,e.ID≠id->gM c.Rows id=gM b.Rows id
theorem ac4 {x:Row}{l:List Row}{a z:Int}(h:Path a (x::l) z):mD x l=z:=by
 have key:∀(l:List Row)(x:Row)(a:Int),Path a (x::l) z->mD x l=z:=by
  intro l;induction l with
  |nil=>intro x a h;exact h.2.2|cons y l ih=>intro x a h;have:=ih y _ h.2.2;unfold mD at this⊢;rw[List.getLast_cons (List.cons_ne_nil _ _)];exact this
 exact key l x a h
theorem kn (r:Row):Xf none r=true:=rfl
theorem Bl.akV {x:Entry}{v:Int}(h:Bl fit (jY v x)){w:Int}(h1:1<=w)(h2:w<=1073741824):Bl fit (jY w x):=
 ⟨h.id,h.id2,h.QC,h.QD,h1,h2,h.fl,h.ff,h.ft,h.to,h.fm,h.bo,h.akN,h.QE⟩
theorem azd {b c:Book}{e:Event}(hI:Inv fit b)(h:ug (nk fit) b e=(c,0)):∃d X N,Stp fit b e c d X N:=by
 unfold ug at h;cases h1:((bif (bif (bif e.aB !=b.aB+1 then true else decide (e.aB>1073741824)) then true else decide (e.Day<b.Day)) then true else decide (e.Day>1048576)));case true=>rw[h1] at h;exact absurd (Prod.mk.inj h).2 eO
 rw[h1,cond_false] at h;have hc:e.aB=b.aB+1/\e.aB<=1073741824/\b.Day<=e.Day/\e.Day<=1048576:=by
  cases q1:(e.aB !=b.aB+1)
  ·rw[q1] at h1
   simp at q1;cases q2:decide (e.aB>1073741824)
   ·rw[q2] at h1
    cases q3:decide (e.Day<b.Day)
    ·rw[q3] at h1
     have q4:decide (e.Day>1048576)=false:=h1;have:=of_decide_eq_false q2;have:=of_decide_eq_false q3;have:=of_decide_eq_false q4;omega
    ·rw[q3] at h1;cases h1
   ·rw[q2] at h1;cases h1
  ·rw[q1] at h1;cases h1
 obtain⟨c1,c2,c3,c4⟩:=hc;cases h2:(decide (e.Kind<1)||decide (e.Kind>5));case true=>rw[h2] at h;exact absurd (Prod.mk.inj h).2 eO
 rw[h2,cond_false] at h;have hk:1<=e.Kind/\e.Kind<=5:=by simp only[kP,decide_eq_false_iff_not] at h2;omega
 have h0:=hI.com;have hv0:=KO b.Rows e.ID;have hv1:bO b.Rows e.ID<=(b.Rows.length:Int):=QF ah hI.ver;have hr:=hI.rows;have fin:∀{d:Option fq}{X N:List Row}{a' z':Int},c=tu b e d X->b.Rows.length+X.length<=65536->(∀r∈X,r.fH=0/\r.Entry.ID=e.ID/\r.Entry.dH=e.aB/\r.Entry.dn<=e.Day/\∀w,1<=w->w<=1073741824->Bl fit (jY w r.Entry))->
  N.Perm ((gM b.Rows e.ID).filter (Xf d)++fD (bO b.Rows e.ID) X)->Path a' N z'->Kind b e d X N->∃d X N,Stp fit b e c d X N:=fun {d X N a' z'} ho hl hX hN hp hkd=>by
  obtain⟨g1,g2,g3⟩:=ay9 hI c1 c2 c3 c4 hl hX hN hp;rw[<-ho] at g1 g2 g3;exact⟨d,X,N,c1,c2,c3,c4,ho,hl,hkd,hX,g1,g2,g3⟩
 cases k1:(e.Kind==1);case true=>
  rw[k1,cond_true] at h;cases ha:b.Rows.any (ig e.ID);case true=>rw[ha] at h;exact absurd (Prod.mk.inj h).2 eO
  rw[ha,cond_false] at h;have hn:∀r∈b.Rows,r.Entry.ID≠e.ID:=fun r hr=>by have:=List.any_eq_false.1 ha r hr;simpa [ig] using this
  obtain⟨g1,g2,g3⟩:=QL h;have hE:=acY.1 (g2 _ rfl);have hL:gM b.Rows e.ID=[]:=by unfold gM;rw[filter_none fun r hr=>by simp[dI,ig,hn r hr]];rfl
  have hft:e.Until<1048577:=hE.ft;refine fin (a':=e.Until) (z':=1048577) g1 g3 (fun r hr=>?_) (.of_eq ?_) ?_ (.file (by simpa using k1) hn)
  ·have hr:=iX.1 hr
   rw[hr];exact⟨rfl,rfl,rfl,Af _,fun w w1 w2=>hE.akV w1 w2⟩
  ·rw[hL];rfl
  ·exact⟨rfl,hft,rfl⟩
 rw[k1,cond_false] at h;cases k5:(e.Kind==5);case true=>
  rw[k5,cond_true] at h;obtain⟨g1,g2,g3⟩:=QL h;obtain⟨a,z,hp⟩:=hI.path e.ID;refine fin (X:=[]) (N:=gM b.Rows e.ID) g1 g3 (fun r hr=>xC) (.of_eq ?_) hp (.turn (by simpa using k5));rw[filter_all fun r _=>kn r];exact(lF _).symm
 rw[k5,cond_false] at h;obtain⟨a,z,hp⟩:=hI.path e.ID;cases hL:gM b.Rows e.ID with
 |nil=>rw[hL] at h;exact absurd (Prod.mk.inj h).2 eO|cons x l=>
 rw[hL] at h hp;dsimp only at h;have hx:x.Entry.From=a:=hp.1;subst hx;have hend:=ac4 hp;rw[hend] at h;have hmem:∀r∈x::l,Bl fit r.Entry/\r.Entry.ID=e.ID/\r.Entry.dn<=e.Day:=fun r hr=>by rw[<-hL] at hr;obtain⟨m1,m2,m3⟩:=QG.1 hr;have:=hI.filed r m1;exact⟨hI.ent r m1,m2,ah⟩
 obtain⟨aBP,aze,xF⟩:=hmem x (fE ..);cases k2:(e.Kind==2);case true=>
  rw[k2,cond_true] at h;cases q:(decide (e.From<0)||decide (z<=imax e.From x.Entry.From));case true=>rw[q] at h;exact absurd (Prod.mk.inj h).2 eO
  rw[q,cond_false] at h;simp only[kP,decide_eq_false_iff_not] at q;obtain⟨g1,g2,g3⟩:=QL h;have hE:=acY.1 (g2 _ rfl);obtain⟨K,V,p,q',w1,w2,w3,w4,w5,w6⟩:=Cut.before (f:=imax e.From x.Entry.From) (c:=e.aB) hp;have hfx:x.Entry.From<=imax e.From x.Entry.From:=by unfold imax;omega
  have hq:q'=imax e.From x.Entry.From:=w5 hfx ah;subst hq;have hm:=Xh RA;rw[hm] at g1 g3;have azf:Path x.Entry.From (K++(V++[⟨⟨x.Entry.ID,x.Entry.dw,x.Entry.bP,x.Entry.dn,imax e.From x.Entry.From,z,e.aB,e.Vec,e.aQ⟩,0⟩])) z:=by rw[<-jD];exact(w2.append w4).append ⟨rfl,by show imax e.From x.Entry.From<z;omega,rfl⟩
  refine fin (d:=some (gN (imax e.From x.Entry.From))) (X:=V++[⟨⟨x.Entry.ID,x.Entry.dw,x.Entry.bP,x.Entry.dn,imax e.From x.Entry.From,z,e.aB,e.Vec,e.aQ⟩,0⟩]) (N:=K++fD (bO b.Rows e.ID) (V++[⟨⟨x.Entry.ID,x.Entry.dw,x.Entry.bP,x.Entry.dn,imax e.From x.Entry.From,z,e.aB,e.Vec,e.aQ⟩,0⟩])) (a':=x.Entry.From) (z':=z) g1 g3 (fun r hr=>?_) (.of_eq ?_) ?_ (.correct RF hL hp ah ah w1 (w2.append w4) w3)
  ·rcases oW.1 hr with hr|hr
   ·obtain⟨m,m1,rfl,m2,m3⟩:=w3 r hr
    obtain⟨kU,QM,mF⟩:=hmem m m1;refine⟨rfl,QM,rfl,mF,fun w u1 u2=>⟨kU.id,kU.id2,kU.QC,kU.QD,u1,u2,kU.fl,kU.ff,m2,?_,kU.fm,?_,c2,kU.QE⟩⟩
    ·have:=kU.to
     show imax e.From x.Entry.From<=_;omega
    ·show 1<=e.aB;omega
   ·rw[iX.1 hr]
    exact⟨rfl,aze,rfl,xF,fun w u1 u2=>hE.akV u1 u2⟩
  ·rw[hL]
   show _=(x::l).filter (fun r=>dY (gN (imax e.From x.Entry.From)) r.Entry)++_;rw[w1.keep]
  ·obtain⟨m,n1,n2⟩:=azf.split
   exact n1.append (Xg n2)
 rw[k2,cond_false] at h;cases k3:(e.Kind==3);case true=>
  rw[k3,cond_true] at h;cases q:(decide (e.From<0)||decide (z<=e.From));case true=>rw[q] at h;exact absurd (Prod.mk.inj h).2 eO
  rw[q,cond_false] at h;simp only[kP,decide_eq_false_iff_not] at q;obtain⟨g1,g2,g3⟩:=QL h;obtain⟨K,V,p,q',w1,w2,w3,w4,w5,w6⟩:=Cut.before (f:=e.From) (c:=e.aB) hp;have hm:=Xh RA;rw[hm] at g1 g3;simp only[Bj,lF] at g1 g3;refine fin (d:=some (gN e.From)) (X:=V) (N:=K++fD (bO b.Rows e.ID) V) (a':=x.Entry.From) (z':=q') g1 g3 (fun r hr=>?_) (.of_eq ?_) ?_ (.akU (by simpa using k3) hL hp ah ah w1 ⟨q',w2.append w4,fun hh=>w5 hh ah⟩ w6 w3)
  ·obtain⟨m,m1,rfl,m2,m3⟩:=w3 r hr
   obtain⟨kU,QM,mF⟩:=hmem m m1;refine⟨rfl,QM,rfl,mF,fun w u1 u2=>⟨kU.id,kU.id2,kU.QC,kU.QD,u1,u2,kU.fl,kU.ff,m2,?_,kU.fm,?_,c2,kU.QE⟩⟩
   ·have:=kU.to
    show e.From<=_;omega
   ·show 1<=e.aB;omega
  ·rw[hL]
   show _=(x::l).filter (fun r=>dY (gN e.From) r.Entry)++_;rw[w1.keep]
  ·exact w2.append (Xg w4)
 rw[k3,cond_false] at h;have k4:e.Kind=4:=by simp only[beq_eq_false_iff_ne] at k1 k2 k3 k5;omega
 cases q:(decide (x.Entry.From<=e.Day)||x.Entry.From==e.Until);case true=>rw[q] at h;exact absurd (Prod.mk.inj h).2 eO
 rw[q,cond_false] at h;simp only[kP,decide_eq_false_iff_not,beq_eq_false_iff_ne] at q;cases q2:(decide (e.Until<e.Day)||decide (z<=e.Until));case true=>rw[q2] at h;exact absurd (Prod.mk.inj h).2 eO
 rw[q2,cond_false] at h;simp only[kP,decide_eq_false_iff_not] at q2;obtain⟨g1,g2,g3⟩:=QL h;obtain⟨K,V,p,w1,w2,w3,w4⟩:=Cut.KP (u:=e.Until) (c:=e.aB) hp q.2 ah;have hm:=Xh RA;rw[hm] at g1 g3;simp only[Bj,lF] at g1 g3;refine fin (d:=some (iH x.Entry.From e.Until)) (X:=V) (N:=fD (bO b.Rows e.ID) V++K) (a':=e.Until) (z':=z) g1 g3 (fun r hr=>?_) ?_ ?_ (.KP k4 hL hp ah q.2 ah ah w1 (w2.append w3) w4)
 ·obtain⟨m,m1,rfl,m2⟩:=w4 r hr
  obtain⟨kU,QM,mF⟩:=hmem m m1;refine⟨rfl,QM,rfl,mF,fun w u1 u2=>⟨kU.id,kU.id2,kU.QC,kU.QD,u1,u2,kU.fl,?_,m2,kU.to,?_,?_,c2,kU.QE⟩⟩
  ·show m.Entry.dn<=e.Until;omega
  ·have:=kU.to
   show e.Until<=1048576;omega
  ·show 1<=e.aB;omega
 ·rw[hL]
  show List.Perm _ ((x::l).filter (fun r=>dY (iH x.Entry.From e.Until) r.Entry)++_);rw[w1.keep];exact List.perm_append_comm
 ·exact(Xg w2).append w3
end Sh
end
section
open Go Go.Proofs aY
set_option maxRecDepth 100000
namespace Sh
theorem azg {n:Nat}{b:Book}{id i:Int}{x:Row}(hx:aR b.Rows i=some x)(A:List Row)(hA:A.length<2^60):∀(k m:Nat)(z:Row),k<=A.length->k<m->(∀y∈A.drop k,y.Entry.From>x.Entry.From)->
 ∃(k':Nat) (z':Row),Qu n b id i m ((k:Int),A.take k++z::A.drop k)=some ((k':Int),A.take k'++z'::A.drop k')/\k'<=A.length/\(∀y∈A.drop k',y.Entry.From>x.Entry.From)/\(k'=0\/∃y,A[k'-1]? =some y/\y.Entry.From<=x.Entry.From):=by
 intro k;induction k with
 |zero=>intro m z hk hm hy;obtain⟨m,rfl⟩:∃m',m=m'+1:=⟨m-1,ah⟩;exact⟨0,z,by rw[akq];rfl,hk,hy,.inl rfl⟩
 |succ k ih=>
  intro m z hk hm hy;obtain⟨m,rfl⟩:∃m',m=m'+1:=⟨m-1,ah⟩;have hk1:k<A.length:=ah
  have hlen:(A.take (k+1)++z::A.drop (k+1)).length=A.length+1:=by rw[bE,oz,List.length_cons,yO];omega
  have ht:A.take (k+1)=A.take k++[A[k]]:=by rw[List.take_add_one,jM hk1];rfl
  have hg:(A.take (k+1)++z::A.drop (k+1))[k]? =some A[k]:=by rw[GZ Lm,List.getElem?_take_of_lt ah,jM hk1]
  have hg1:(A.take (k+1)++z::A.drop (k+1))[k+1]? =some z:=by rw[List.getElem?_append_right Lm,oz];rw[show k+1-min (k+1) A.length=0 by omega];rfl
  have hw:wrap .i64 (((k+1:Nat):Int)-(1:Int))=((k:Nat):Int):=by rw[ayf ah ah];rfl
  have hset:iO (A.take (k+1)++z::A.drop (k+1)) ((k+1:Nat):Int) A[k]=A.take k++A[k]::A.drop k:=by
   have e:(A.take (k+1)).length=k+1:=Lm
   have:=set_mid (A.take (k+1)) z A[k] (A.drop (k+1));rw[e] at this;rw[this,ht,jD];congr 1;show A[k]::A[k]::A.drop (k+1)=_;rw[<-uQ hk1]
  rw[akq,decide_eq_true ah,cond_true,hw,Gw (by rw[hlen];omega),cond_true];by_cases c:A[k].Entry.From>x.Entry.From
  ·obtain⟨k',z',h1,h2⟩:=ih m A[k] ah ah (fun y hy'=>by
    rw[uQ hk1] at hy';rcases iC.1 hy' with rfl|hy'
    ·exact c
    ·exact hy y hy')
   refine⟨k',z',?_,h2⟩;refine bs (bH hg) (bs hx ?_);rw[decide_eq_true c,cond_true];refine bs (bH hg) ?_;rw[Gw (by rw[hlen];omega),cond_true];refine bs (bH hg1) ?_;rw[hset];exact h1
  ·refine⟨k+1,z,?_,hk,hy,.inr ⟨A[k],jM hk1,ah⟩⟩
   refine bs (bH hg) (bs hx ?_);rw[decide_eq_false c,cond_false]
theorem azh {A:List Row}{x:Row}{k:Nat}(hs:So.fP mU A)(h1:∀y∈A.drop k,y.Entry.From>x.Entry.From)(h2:k=0\/∃y,A[k-1]? =some y/\y.Entry.From<=x.Entry.From):
 So.fP mU (A.take k++x::A.drop k)/\So.eB mU (A.take k++x::A.drop k) (A++[x]):=by
 have h3:∀y∈A.take k,y.Entry.From<=x.Entry.From:=by
  rcases h2 with rfl| ⟨z,hz,hzx⟩
  ·intro y hy;cases hy
  ·intro y hy
   obtain⟨j,hj,e⟩:=List.mem_take_iff_getElem.1 hy;have hk:=qL hz;rw[jM hk] at hz;cases hz;rw[<-e];by_cases c:j=k-1
   ·subst c;exact hzx
   ·have:=List.pairwise_iff_getElem.1 hs j (k-1) ah hk ah
    exact Int.le_trans this hzx
 constructor
 ·have e:A.take k++A.drop k=A:=tL k A
  rw[<-e] at hs;obtain⟨p1,p2,p3⟩:=List.pairwise_append.1 hs;refine List.pairwise_append.2 ⟨p1,List.pairwise_cons.2 ⟨fun y hy=>Int.le_of_lt (h1 y hy),p2⟩,fun y hy z hz=>?_⟩;rcases iC.1 hz with rfl|hz
  ·exact h3 y hy
  ·exact p3 y hy z hz
 ·intro j
  have e:A.filter (fun a=>mU a==j)=(A.take k).filter (fun a=>mU a==j)++(A.drop k).filter (fun a=>mU a==j):=by rw[<-qc,tL]
  rw[qc,qc,e];by_cases c:mU x=j
  ·have:(A.drop k).filter (fun a=>mU a==j)=[]:=by rw[List.filter_eq_nil_iff];intro y hy hyj;have:=h1 y hy;have h5:mU y=j:=(by simpa using hyj);have h6:y.Entry.From=mU y:=rfl;have h7:x.Entry.From=mU x:=rfl;omega
   rw[oD CG,this,oD CG,lF,List.filter_nil]
  ·rw[nT CG,nT CG,List.filter_nil,lF]
theorem azi {n:Nat}{b:Book}{id:Int}(hn:b.Rows.length+1<n)(hb:b.Rows.length<2^29):∀(k i:Nat)(D L:List Row)(m:Nat),i+k=b.Rows.length->D.length<=i->k<m->So.fP mU D->So.eB mU D L->
 ∃D',Gt n b id m (((),(i:Int)),D)=some ((),D')/\So.fP mU D'/\So.eB mU D' (L++(b.Rows.drop i).filter (dI id)):=by
 intro k;induction k with
 |zero=>
  intro i D L m hi _ hm h1 h2;obtain⟨m,rfl⟩:∃m',m=m'+1:=⟨m-1,ah⟩;obtain rfl:i=b.Rows.length:=ah
  refine⟨D,?_,h1,?_⟩
  ·rw[akr,decide_eq_false ah];rfl
  ·rw[List.drop_length]
   simpa using h2
 |succ k ih=>
  intro i D L m hi hD hm h1 h2;obtain⟨m,rfl⟩:∃m',m=m'+1:=⟨m-1,ah⟩;have hlt:i<b.Rows.length:=ah
  have hx:b.Rows[i]? =some b.Rows[i]:=jM hlt;rw[akr,jd ah,uQ hlt,ku hx,cond_true];generalize b.Rows[i]=r at hx;have hw:∀d:Row,lS (r.Entry.ID==id) (aR b.Rows ((i:Nat):Int)) d=some (bif r.Entry.ID==id then r else d):=fun d=>by rw[bH hx];exact akA
  have hc:(bif r.Entry.ID==id then (bif r.Entry.ID==id then r else (⟨(⟨(0:Int),(0:Int),(0:Int),(0:Int),(0:Int),(0:Int),(0:Int),[],[]⟩:Entry),(0:Int)⟩:Row)).fH==(0:Int) else false)=dI id r:=by unfold dI ig;cases (r.Entry.ID==id)<;>rfl
  cases hv:dI id r with
  |true=>
   rw[hv] at hc;obtain⟨k',z',g1,g2,g3,g4⟩:=azg (n:=n) (id:=id) (bH hx) D ah D.length n r (RS _) ah (fun y hy=>by rw[List.drop_length] at hy;cases hy);rw[List.take_length,List.drop_length] at g1;obtain⟨s1,s2⟩:=azh h1 g3 g4;have hset:iO (D.take k'++z'::D.drop k') (k':Int) r=D.take k'++r::D.drop k':=by have e:(D.take k').length=k':=Lm;have:=set_mid (D.take k') z' r (D.drop k');rw[e] at this;exact this
   have hlen:(D.take k'++z'::D.drop k').length=D.length+1:=by rw[bE,oz,List.length_cons,yO];omega
   obtain⟨D',d1,d2,d3⟩:=ih (i+1) (D.take k'++r::D.drop k') (L++[r]) m ah (by
    rw[bE,oz,List.length_cons,yO];omega) ah s1 (fun j=>by
    rw[s2 j,qc,qc,h2 j])
   refine⟨D',?_,d2,?_⟩
   ·refine bs (bH hx) ?_
    refine bs (hw _) ?_;refine bJ hc (bs (bH hx) ?_);refine bJ (qM rT ah) ?_;refine bs g1 (bs (bH hx) ?_);have hk':k'< (D.take k'++z'::D.drop k').length:=(by rw[hlen];omega);show (bif decide (0<=(k':Int)/\(k':Int)< (((D.take k'++z'::D.drop k').length:Nat):Int)) then _ else none)=_;rw[Gw hk',cond_true];refine bs (bH (jM hk')) ?_;show Gt n b id m (((),((i+1:Nat):Int)),iO (D.take k'++z'::D.drop k') (k':Int) r)=_;rw[hset];exact d1
   ·rw[oD hv]
    rw[jD] at d3;exact d3
  |false=>
   rw[hv] at hc;obtain⟨D',d1,d2,d3⟩:=ih (i+1) D L m ah ah ah h1 h2;refine⟨D',?_,d2,?_⟩
   ·refine bs (bH hx) ?_
    refine bs (hw _) ?_;exact bW hc d1
   rw[nT (by rw[hv];simp)];exact d3
theorem akW {n:Nat}{b:Book}{id:Int}(hb:b.Rows.length<=65536)(hn:2^20<n):Bf n (b,id)=some (gM b.Rows id):=by
 obtain⟨D',e1,e2,e3⟩:=azi (n:=n) (b:=b) (id:=id) ah ah b.Rows.length 0 [] [] n ah aC ah .nil (fun _=>rfl);have e3:So.eB mU D' (b.Rows.filter (dI id)):=by simpa using e3
 have hD:D'=gM b.Rows id:=(So.acW e2 e3).symm;rw[ax1];refine bs e1 ?_;rw[hD]
theorem akX {n:Nat}{b:Book}{id:Int}(hb:b.Rows.length<=65536)(hn:2^20<n):PI n (b,id)=some (bO b.Rows id):=by
 have key:∀(k i m:Nat)(v:Int),i+k=b.Rows.length->k<m->KI n b id m (v,(i:Int))=some (((b.Rows.drop i).filter (ig id)).foldl (fun v r=>imax v r.Entry.dw) v):=by
  intro k;induction k with
  |zero=>intro i m v hi hm;obtain⟨m,rfl⟩:∃m',m=m'+1:=⟨m-1,ah⟩;rw[akn,ni ah,G7 ah];rfl
  |succ k ih=>
   intro i m v hi hm;obtain⟨m,rfl⟩:∃m',m=m'+1:=⟨m-1,ah⟩;have hlt:i<b.Rows.length:=ah
   have hx:b.Rows[i]? =some b.Rows[i]:=jM hlt;rw[akn,ku hx,jd ah,uQ hlt];generalize b.Rows[i]=r at hx;cases h:ig id r
   ·rw[nT Lr]
    exact bs (bH hx) (bW h (ih (i+1) m v ah ah))
   ·rw[oD h]
    exact bs (bH hx) (bJ h (bs (bH hx) (ih (i+1) m _ ah ah)))
 rw[axY];exact bs (key b.Rows.length 0 n 0 ah ah) rfl
theorem azj {n:Nat}{b:Book}{id:Int}(hb:b.Rows.length<=65536)(hn:2^20<n):PD n (b,id)=some (b.Rows.any (ig id)):=by
 have:=KN (L:=fun m i=>Qs n b id m i) (l:=b.Rows) (fun x i r=>bif x.Entry.ID==id then some (.inr true) else r) (some (.inl ()))
  (fun m i x hx=>by have hlt:=qL hx;rw[akj,ku hx,bH hx,jd ah];rfl)
  (fun m=>by rw[akj,zP];rfl) (show b.Rows.length<n by omega)
 rw[axS,this,Gv (fun x:Row=>x.Entry.ID==id) (fun i=>(Sum.inr true:PUnit⊕Bool)) (.inl ())];cases hf:b.Rows.findIdx? (fun x:Row=>x.Entry.ID==id) with
 |none=>
  rw[List.findIdx?_eq_none_iff] at hf;have:b.Rows.any (ig id)=false:=by rw[List.any_eq_false];intro y hy;simpa [ig] using hf y hy
  rw[this];rfl
 |some j=>
  obtain⟨hj,h2,_⟩:=List.findIdx?_eq_some_iff_getElem.1 hf;have:b.Rows.any (ig id)=true:=by rw[List.any_eq_true];exact⟨b.Rows[j],lY hj,h2⟩
  rw[this];rfl
theorem KQ {b:Book}{k:Int}(h:b.Rows.length<=65536):Ch b k=some (kI k 0 b.Rows):=by unfold Ch aaV;rw[if_pos ah]
theorem azk {n:Nat}{l:List Int}(h:l.length<=2^30):Option.map (fun y=>y.1) (Ec n l ())=some l:=by
 rw[awW];cases l with
 |nil=>rfl|cons a l=>
  show Option.map _ (bif dG (a::l).length 8 then _ else _)=_;have:dG (a::l).length 8=true:=by unfold dG;rw[iP,decide_eq_true_iff,decide_eq_true_iff];omega
  rw[this];rfl
theorem azl {n:Nat}{l:List Row}(h:l.length<=65536):Option.map (fun y=>y.1) (Ed n l ())=some l:=by
 rw[awX];cases l with
 |nil=>rfl|cons a l=>show Option.map _ (bif dG (a::l).length 112 then _ else _)=_;rw[qM (a:=(a::l).length) ah ah];rfl
theorem QN {k:Int}{i:Nat}{r:Row}{l:List Row}(h:r.Entry.ID=k):kI k i (r::l)=(((i:Nat):Int),r)::kI k (i+1) l:=by show (bif decide (r.Entry.ID=k) then _ else _)=_;rw[decide_eq_true h];rfl
theorem KR {k:Int}{i:Nat}{r:Row}{l:List Row}(h:¬r.Entry.ID=k):kI k i (r::l)=kI k (i+1) l:=by show (bif decide (r.Entry.ID=k) then _ else _)=_;rw[decide_eq_false h];rfl
theorem azm {k:Int}{r:Row}(h:r.Entry.ID=k):ig k r=true:=by simp[ig,h]
theorem akY {k:Int}{r:Row}(h:¬r.Entry.ID=k):ig k r=false:=by simp[ig,h]
theorem ac5 {L:List (Int×Row)->PUnit×Int->Option (PUnit×Int)}(h:Co L)(k:Int):
 ∀(l:List Row)(i:Nat)(v:Int),L (kI k i l) ((),v)=some ((),(l.filter (ig k)).foldl (fun v r=>imax v r.Entry.dw) v)
 | [],i,v=>h.1 v|r::l,i,v=>by
  by_cases c:r.Entry.ID=k
  ·rw[QN c,oD (azm c),h.2,ac5 h k l];rfl
  ·rw[KR c,nT (by rw[akY c];simp),ac5 h k l]
theorem akZ {d:fq}{D:Entry->Option (Int×Int)}{c:Int}{L:Cq}(hD:∀x,D x=some (d x))(hs:PU D c L)(k:Int):
 ∀(l P B:List Row),P.length+l.length<=65536->B.length<=P.length->L (kI k P.length l) ((),((),(P++l,B)))=some ((),((),(P++l.map (lC d k c),B++(l.filter (dI k)).filterMap (kC d c))))
 | [],P,B,_,_=>by show L [] _=_;rw[hs.1];simp|r::l,P,B,hl,hB=>by
  have hl':(P.length+1)+l.length<=65536:=by rw[List.length_cons] at hl;omega
  have step:∀(r':Row)(B':List Row),B'.length<=P.length+1->L (kI k (P.length+1) l) ((),((),(P++r'::l,B')))=some ((),((),(P++r'::l.map (lC d k c),B'++(l.filter (dI k)).filterMap (kC d c)))):=fun r' B' hB'=>by have:=akZ hD hs k l (P++[r']) B' (by rw[bE];exact hl') (by rw[bE];exact hB');rw[bE,jD,jD] at this;exact this
  rw[fG];by_cases h:r.Entry.ID=k
  ·rw[QN h,hs.2]
   by_cases hd:r.fH=0
   ·have hlv:dI k r=true:=by simp[dI,ig,h,hd]
    rw[oD hlv,show (r.fH !=(0:Int))=false by simp[hd],hD];show (bif (bif (d r.Entry).1==r.Entry.From then (d r.Entry).2==r.Entry.To else false) then _ else _)=_;have hsame:(bif (d r.Entry).1==r.Entry.From then (d r.Entry).2==r.Entry.To else false)=dY d r.Entry:=(by unfold dY;cases ((d r.Entry).1==r.Entry.From)<;>rfl);rw[hsame];cases hsm:dY d r.Entry
    ·have hdr:lC d k c r=⟨r.Entry,c⟩:=by unfold lC;rw[hlv,hsm];rfl
     have hx:(P++r::l)[P.length]? =some r:=aC;have hset:iO (P++r::l) (P.length:Int) (⟨r.Entry,c⟩:Row)=P++(⟨r.Entry,c⟩:Row)::l:=So.set_mid P l r _ rfl;rw[hdr,cond_false,Gw (qL hx),cond_true];refine bs (bH hx) ?_;by_cases hft:(d r.Entry).1< (d r.Entry).2
     ·rw[decide_eq_true hft,cond_true]
      refine bJ (qM rT ah) ?_;rw[hset];rw[List.filterMap_cons_some (QH hsm rfl hft)];refine(step _ _ oq).trans ?_;rw[jD];rfl
     ·rw[decide_eq_false hft,cond_false,hset]
      rw[List.filterMap_cons_none (Xe hsm hft)];exact step _ _ ah
    ·have hdr:lC d k c r=r:=Gz (by rw[hsm];simp)
     rw[hdr,List.filterMap_cons_none (GA hsm)];exact step r B ah
   ·have hlv:dI k r=false:=by simp[dI,ig,hd]
    have hdr:lC d k c r=r:=Gz (by rw[hlv];rfl);rw[nT (by rw[hlv];simp),hdr,bne_iff_ne.2 hd];exact step r B ah
  ·have hlv:dI k r=false:=by simp[dI,ig,h]
   have hdr:lC d k c r=r:=Gz (by rw[hlv];rfl);rw[KR h,nT (by rw[hlv];simp),hdr];exact step r B ah
theorem Xi {L:Cq}(hs:acu L)(k:Int):
 ∀(l:List Row)(i:Nat)(A B:List Row),L (kI k i l) ((),((),(A,B)))=some ((),((),(A,B)))
 | [],i,A,B=>hs.1 A B|r::l,i,A,B=>by
  by_cases h:r.Entry.ID=k
  ·rw[QN h,hs.2]
   have:(bif r.fH !=(0:Int) then true else true)=true:=by cases (r.fH !=(0:Int))<;>rfl
   rw[this];exact Xi hs k l _ A B
  ·rw[KR h]
   exact Xi hs k l _ A B
theorem ac6 {L:Nat->Int×List Row->Option (PUnit×List Row)}{v:Int}{N:Nat}(hv0:0<=v)(hv:v<=2^40)(hN:N<=2^20)(hs:Ei v N L):∀(l P:List Row)(m:Nat),P.length+l.length=N->l.length<m->L m ((P.length:Int),P++l)=some ((),P++fD (v+(P.length:Int)) l)
 | [],P,m,hl,hm=>by
   obtain⟨m,rfl⟩:∃m',m=m'+1:=⟨m-1,ah⟩;rw[hs];have:N=P.length:=by simpa using hl.symm
   rw[this,decide_eq_false ah];rfl
 |r::l,P,m,hl,hm=>by
  obtain⟨m,rfl⟩:∃m',m=m'+1:=⟨m-1,ah⟩;rw[List.length_cons] at hl hm;have hx:(P++r::l)[P.length]? =some r:=aC
  rw[hs,decide_eq_true ah,cond_true,Gw (qL hx),cond_true];refine bs (bH hx) ?_;have hw:wrap .i64 ((wrap .i64 (v+(1:Int)))+(P.length:Int))=v+(P.length:Int)+1:=by rw[So.wr (i:=v+1) ah ah,So.wr ah ah];omega
  rw[jd ah,hw,So.set_mid P l r _ rfl];have:=ac6 hv0 hv hN hs l (P++[⟨jY (v+(P.length:Int)+1) r.Entry,r.fH⟩]) m K8 ah;rw[bE,jD,jD] at this;refine this.trans ?_;have e:v+(((P.length+[(⟨jY (v+(P.length:Int)+1) r.Entry,r.fH⟩:Row)].length:Nat)):Int)=v+(P.length:Int)+1:=rT
  rw[e];rfl
def oQ (d:Option fq)(l:List Row)(id c:Int):List Row:=match d with
 |none=>[]|some d=>(l.filter (dI id)).filterMap (kC d c)
theorem ak0 (d:Option fq)(l:List Row)(id c:Int):dN d l id c=So.xg mU (oQ d l id c):=GX
theorem azn (d:Option fq)(l:List Row)(id c:Int):(oQ d l id c).length<=l.length:=by
 cases d with
 |none=>exact kN _|some d=>exact bZ (List.length_filterMap_le _ _) (List.length_filter_le _ _)
theorem KS (d:Option fq)(l:List Row)(id c:Int):(dN d l id c).length<=l.length:=by rw[ak0,So.akM];exact azn ..
theorem ac7 {d:fq}{D:Entry->Option (Int×Int)}{c:Int}{L:Cq}(hD:∀x,D x=some (d x))(hs:PU D c L)(k:Int){l:List Row}(hl:l.length<=65536):L (kI k 0 l) ((),((),(l,[])))=some ((),((),(jC (some d) l k c,oQ (some d) l k c))):=by have:=akZ hD hs k l [] [] (by rw[List.length_nil,nS];exact hl) (RS _);exact this
theorem azo {b:Book}{day:Int}(hdl:b.dL.length<=2^30):dG (b.dL.length+([day].length)) 8=true:=by unfold dG;rw[iP,decide_eq_true_iff,decide_eq_true_iff];simp only[List.length_cons,List.length_nil];omega
theorem azp {n:Nat}{D:List Row}(h:D.length<=1)(hn:1<n):Cn n ((),((),())) D=some ((),D):=by
 obtain⟨m,rfl⟩:∃m,n=m+1:=⟨n-1,ah⟩;rw[aw3];refine bs (a:=((),D)) ?_ rfl;refine(aw2 (m+1) (D.length:Int) D).trans ?_;refine bs (a:=((0:Int),D)) ?_ (bs (a:=((),D)) ?_ (bs (a:=((),D)) ?_ rfl))
 ·refine(aw0 (m+1) (D.length:Int) m 0 20 D).trans ?_
  exact bW (decide_eq_false ah) rfl
 ·refine(awZ (m+1) 0 (D.length:Int) D).trans ?_
  refine bs (a:=((),D)) ?_ rfl;refine(awY (m+1) 0 (D.length:Int) m _ D).trans ?_;exact bW (decide_eq_false (by rw[So.wr ah ah];omega)) rfl
 ·refine(aw1 (m+1) (D.length:Int) m 20 D).trans ?_
  exact bW (decide_eq_false ah) rfl
theorem azq {n:Nat}(d:Option fq){b:Book}{id c:Int}(h1:(oQ d b.Rows id c).length<=1)(hn:2^20<n):Cn n ((),((),())) (oQ d b.Rows id c)=some ((),dN d b.Rows id c):=by
 have:dN d b.Rows id c=oQ d b.Rows id c:=by rw[ak0];exact akQ (So.acX _) h1
 rw[this];exact azp h1 ah
theorem azr {ent:Entry->Int}{d:Option fq}{b:Book}{e:Event}{A:List Row}(hA:A=jC d b.Rows e.ID e.aB){Z:Option (PUnit×List Row)}(hb:b.Rows.length<=65536)(hZ:Z=some ((),fD (bO b.Rows e.ID) (dN d b.Rows e.ID e.aB))):(Z.bind fun (vK:PUnit×List Row)=>bif decide ((wrap .i64 ((A.length:Int)+(vK.2.length:Int)))> (65536:Int)) then some ((b,(2:Int)))else bif dG (A.length+vK.2.length) 112 then some (((⟨b.aN,e.aB,e.Day,b.dL++[e.Day],A++vK.2⟩:Book),(0:Int)))else none)=some (jV ent d none b e):=by
 have hl:=KS d b.Rows e.ID e.aB;have h1:jV ent d none b e=bif decide (65536<b.Rows.length+(dN d b.Rows e.ID e.aB).length) then (b,2) else (⟨b.aN,e.aB,e.Day,b.dL++[e.Day],jC d b.Rows e.ID e.aB++fD (bO b.Rows e.ID) (dN d b.Rows e.ID e.aB)⟩,0):=by unfold jV;dsimp only[Bj];rw[lF,xk];rfl
 rw[h1];refine bs hZ ?_;subst hA;dsimp only;rw[xk,GI,So.wr ah ah];have e1:decide ((((b.Rows.length:Nat):Int))+(((dN d b.Rows e.ID e.aB).length:Nat):Int)> (65536:Int))=decide (65536<b.Rows.length+(dN d b.Rows e.ID e.aB).length):=decide_eq_decide.2 ah;rw[e1];cases decide (65536<b.Rows.length+(dN d b.Rows e.ID e.aB).length)
 ·rw[cond_false,cond_false];exact bJ (qM ah ah) rfl
 ·rfl
theorem ak1 (v:Int)(l:List Row)(x:Row):fD v (l++[x])=fD v l++[⟨jY (v+(l.length:Int)+1) x.Entry,x.fH⟩]:=by rw[akO];rfl
theorem azs {n:Nat}{ent:Entry->Int}{d:Option fq}{b:Book}{e:Event}{x:Entry}{A:List Row}(hA:A=jC d b.Rows e.ID e.aB){Z:List Row->Option (PUnit×List Row)}(hb:b.Rows.length<=65536)(hZ:Z (dN d b.Rows e.ID e.aB++[⟨x,0⟩])=some ((),fD (bO b.Rows e.ID) (dN d b.Rows e.ID e.aB++[⟨x,0⟩])))(hE:yG n (b.aN,jY (bO b.Rows e.ID+((dN d b.Rows e.ID e.aB).length:Int)+1) x)=some (ent (jY (bO b.Rows e.ID+((dN d b.Rows e.ID e.aB).length:Int)+1) x))):(bif dG ((dN d b.Rows e.ID e.aB).length+([(⟨x,(0:Int)⟩:Row)].length)) 112 then (Z (dN d b.Rows e.ID e.aB++[(⟨x,(0:Int)⟩:Row)])).bind fun (mE:PUnit×List Row)=>bif decide (0<=(wrap .i64 ((mE.2.length:Int)-(1:Int)))/\(wrap .i64 ((mE.2.length:Int)-(1:Int)))< (mE.2.length:Int)) then (aR mE.2 (wrap .i64 ((mE.2.length:Int)-(1:Int)))).bind fun (Kz:Row)=>(yG n ((b.aN,Kz.Entry))).bind fun (Gl:Int)=>bif Gl !=(0:Int) then some ((b,Gl))else bif decide ((wrap .i64 ((A.length:Int)+(mE.2.length:Int)))> (65536:Int)) then some ((b,(2:Int)))else bif dG (A.length+mE.2.length) 112 then some (((⟨b.aN,e.aB,e.Day,b.dL++[e.Day],A++mE.2⟩:Book),(0:Int)))else none else none else none)=some (jV ent d (some x) b e):=by
 have hl:=KS d b.Rows e.ID e.aB;have h1:jV ent d (some x) b e=bif ent (jY (bO b.Rows e.ID+((dN d b.Rows e.ID e.aB).length:Int)+1) x) !=0 then (b,ent (jY (bO b.Rows e.ID+((dN d b.Rows e.ID e.aB).length:Int)+1) x)) else bif decide (65536<b.Rows.length+(fD (bO b.Rows e.ID) (dN d b.Rows e.ID e.aB++[⟨x,0⟩])).length) then (b,2) else (⟨b.aN,e.aB,e.Day,b.dL++[e.Day],jC d b.Rows e.ID e.aB++fD (bO b.Rows e.ID) (dN d b.Rows e.ID e.aB++[⟨x,0⟩])⟩,0):=rfl;rw[h1];generalize hm:dN d b.Rows e.ID e.aB=mv at*;refine bJ (qM rT ah) (bs hZ ?_);dsimp only;have hln:(fD (bO b.Rows e.ID) (mv++[⟨x,0⟩])).length=mv.length+1:=by rw[xk,bE];rfl
 have hw:wrap .i64 ((((fD (bO b.Rows e.ID) (mv++[⟨x,0⟩])).length:Nat):Int)-(1:Int))=(mv.length:Int):=by rw[hln,So.wr ah ah];omega
 rw[hw];refine bJ (Gw ah) ?_;have hx:(fD (bO b.Rows e.ID) (mv++[(⟨x,0⟩:Row)]))[mv.length]? =some ⟨jY (bO b.Rows e.ID+(mv.length:Int)+1) x,0⟩:=by rw[ak1,List.getElem?_append_right (by rw[xk];exact RS _),xk,Nat.sub_self];rfl
 refine bs (bH hx) (bs hE ?_);cases hz:(ent (jY (bO b.Rows e.ID+(mv.length:Int)+1) x) !=0)
 ·subst hA
  rw[cond_false,cond_false,GI,hln,So.wr ah ah];have e1:decide ((((b.Rows.length:Nat):Int))+(((mv.length+1:Nat):Nat):Int)> (65536:Int))=decide (65536<b.Rows.length+(mv.length+1)):=decide_eq_decide.2 ah;rw[e1];cases decide (65536<b.Rows.length+(mv.length+1))
  ·rw[cond_false,cond_false];exact bJ (qM ah ah) rfl
  ·rfl
 ·rfl
theorem ak2 {n:Nat}{b:Book}{e:Event}{d:Option fq}{uF:List Int->List Row->List (Int×Row)->PUnit×Int->Option (PUnit×Int)}{uG:List Int->PUnit×Int->Cq}{K:List Int->PUnit×Int->PUnit×PUnit×List Row×List Row->PUnit×List Row->Option (Book×Int)}{o:Option (Book×Int)}(hb:b.Rows.length<=65536)(hdl:b.dL.length<=2^30)(hn:2^20<n)(h1:(oQ d b.Rows e.ID e.aB).length<=1)(ho:Bu n b e uF uG K o)(h5:Co (uF b.dL b.Rows))(h10:uG b.dL ((),bO b.Rows e.ID) (kI e.ID 0 b.Rows) ((),((),(b.Rows,[])))=some ((),((),(jC d b.Rows e.ID e.aB,oQ d b.Rows e.ID e.aB)))){r:Option (Book×Int)}(hK:∀X,K b.dL ((),bO b.Rows e.ID) ((),((),(jC d b.Rows e.ID e.aB,X))) ((),dN d b.Rows e.ID e.aB)=r):o=r:=by
 refine Eq.trans ho ?_;refine bs (azk hdl) (bJ (azo hdl) (bs (azl hb) ?_));refine bs (KF n b e.ID) (bs (a:=((),bO b.Rows e.ID)) ?_ ?_)
 ·exact bs (a:=kI e.ID 0 b.Rows) (KQ hb) (ac5 h5 e.ID b.Rows 0 0)
 refine bs (KF n b e.ID) (bs (a:=((),((),(jC d b.Rows e.ID e.aB,oQ d b.Rows e.ID e.aB)))) ?_ ?_)
 ·exact bs (a:=kI e.ID 0 b.Rows) (KQ hb) h10
 exact bs (a:=((),dN d b.Rows e.ID e.aB)) (azq d h1 hn) (hK _)
theorem ac8 {n:Nat}{ent:Entry->Int}{b:Book}{e:Event}{d:Option fq}{uF:List Int->List Row->List (Int×Row)->PUnit×Int->Option (PUnit×Int)}{uG:List Int->PUnit×Int->Cq}{L:List Int->PUnit×Int->PUnit×PUnit×List Row×List Row->PUnit×List Row->Nat->Int×List Row->Option (PUnit×List Row)}{o:Option (Book×Int)}(hb:b.Rows.length<=65536)(hdl:b.dL.length<=2^30)(hn:2^20<n)(hv:bO b.Rows e.ID<=2^40)(h1:(oQ d b.Rows e.ID e.aB).length<=1)(ho:Bu n b e uF uG (fun a v q w=>Wj b e (fun m p=>L a v q w m p) n a q.2.2.1 w.2) o)(h5:Co (uF b.dL b.Rows))(h10:uG b.dL ((),bO b.Rows e.ID) (kI e.ID 0 b.Rows) ((),((),(b.Rows,[])))=some ((),((),(jC d b.Rows e.ID e.aB,oQ d b.Rows e.ID e.aB))))(hL:∀a v q w,Ei v.2 w.2.length (fun m p=>L a v q w m p)):o=some (jV ent d none b e):=by
 have hv0:=KO b.Rows e.ID;have hml:=KS d b.Rows e.ID e.aB;refine ak2 hb hdl hn h1 ho h5 h10 fun X=>?_;refine azr (d:=d) (A:=jC d b.Rows e.ID e.aB) rfl hb ?_;have:=ac6 (L:=fun m p=>L b.dL ((),bO b.Rows e.ID) ((),((),(jC d b.Rows e.ID e.aB,X))) ((),dN d b.Rows e.ID e.aB) m p) (v:=bO b.Rows e.ID) (N:=(dN d b.Rows e.ID e.aB).length) hv0 hv ah (hL _ _ _ _) (dN d b.Rows e.ID e.aB) [] n (by rw[List.length_nil,nS]) ah;simpa using this
theorem ak3 {n:Nat}{ent:Entry->Int}{b:Book}{e:Event}{x:Entry}{d:Option fq}{uF:List Int->List Row->List (Int×Row)->PUnit×Int->Option (PUnit×Int)}{uG:List Int->PUnit×Int->Cq}{L:List Int->PUnit×Int->PUnit×PUnit×List Row×List Row->PUnit×List Row->Nat->Int×List Row->Option (PUnit×List Row)}{o:Option (Book×Int)}(hb:b.Rows.length<=65536)(hdl:b.dL.length<=2^30)(hn:2^20<n)(hv:bO b.Rows e.ID<=2^40)(h1:(oQ d b.Rows e.ID e.aB).length<=1)(hE:yG n (b.aN,jY (bO b.Rows e.ID+((dN d b.Rows e.ID e.aB).length:Int)+1) x)=some (ent (jY (bO b.Rows e.ID+((dN d b.Rows e.ID e.aB).length:Int)+1) x)))(ho:Bu n b e uF uG (fun a v q w=>acv b e x (fun m p=>L a v q w m p) n a q.2.2.1 w.2) o)(h5:Co (uF b.dL b.Rows))(h10:uG b.dL ((),bO b.Rows e.ID) (kI e.ID 0 b.Rows) ((),((),(b.Rows,[])))=some ((),((),(jC d b.Rows e.ID e.aB,oQ d b.Rows e.ID e.aB))))(hL:∀a v q w,Ei v.2 (w.2++[(⟨x,(0:Int)⟩:Row)]).length (fun m p=>L a v q w m p)):o=some (jV ent d (some x) b e):=by
 have hv0:=KO b.Rows e.ID;have hml:=KS d b.Rows e.ID e.aB;refine ak2 hb hdl hn h1 ho h5 h10 fun X=>?_;refine azs (d:=d) (x:=x) (A:=jC d b.Rows e.ID e.aB) (Z:=fun l=>L b.dL ((),bO b.Rows e.ID) ((),((),(jC d b.Rows e.ID e.aB,X))) ((),dN d b.Rows e.ID e.aB) n ((0:Int),l)) rfl hb ?_ hE;have:=ac6 (L:=fun m p=>L b.dL ((),bO b.Rows e.ID) ((),((),(jC d b.Rows e.ID e.aB,X))) ((),dN d b.Rows e.ID e.aB) m p) (v:=bO b.Rows e.ID) (N:=(dN d b.Rows e.ID e.aB++[(⟨x,0⟩:Row)]).length) hv0 hv K8 (hL _ _ _ _) (dN d b.Rows e.ID e.aB++[⟨x,0⟩]) [] n (by rw[List.length_nil,nS]) K8;simpa using this
theorem azt {n:Nat}{ent:Entry->Int}{b:Book}{e:Event}(hb:b.Rows.length<=65536)(hdl:b.dL.length<=2^30)(hn:2^20<n)(hv:bO b.Rows e.ID<=2^40):
 QQ n (((),()),(b,e))=some (jV ent none none b e):=
 ac8 (d:=none) (uF:=fun a l q p=>WH n b e a l q p) (uG:=fun a u q p=>WI n b e a u q p) (L:=fun a u q w m p=>WJ n b e a u q w m p) hb hdl hn hv (kN _) (axz n b e) (axw n b e b.dL b.Rows) (Xi (axx n b e b.dL ((),bO b.Rows e.ID)) e.ID b.Rows 0 b.Rows []) (fun a u q w=>axy n b e a u q w)
theorem azu {n:Nat}{ent:Entry->Int}{b:Book}{e:Event}{x:Entry}(hb:b.Rows.length<=65536)(hdl:b.dL.length<=2^30)(hn:2^20<n)(hv:bO b.Rows e.ID<=2^40)(hE:yG n (b.aN,jY (bO b.Rows e.ID+((dN none b.Rows e.ID e.aB).length:Int)+1) x)=some (ent (jY (bO b.Rows e.ID+((dN none b.Rows e.ID e.aB).length:Int)+1) x))):
 Pt n (((),(x.ID,(x.dw,(x.bP,(x.dn,(x.From,(x.To,(x.dH,(x.Vec,x.aQ))))))))),(b,e))=some (jV ent none (some x) b e):=
 ak3 (d:=none) (uF:=fun a l q p=>WK n x b e a l q p) (uG:=fun a u q p=>WL n x b e a u q p) (L:=fun a u q w m p=>WM n x b e a u q w m p) hb hdl hn hv (kN _) hE (axD n x b e) (axA n x b e b.dL b.Rows) (Xi (axB n x b e b.dL ((),bO b.Rows e.ID)) e.ID b.Rows 0 b.Rows []) (fun a u q w=>axC n x b e a u q w)
theorem azv {n:Nat}{ent:Entry->Int}{b:Book}{e:Event}{f:Int}{x:Entry}(hb:b.Rows.length<=65536)(hdl:b.dL.length<=2^30)(hn:2^20<n)(hv:bO b.Rows e.ID<=2^40)(h1:(oQ (some (gN f)) b.Rows e.ID e.aB).length<=1)(hE:yG n (b.aN,jY (bO b.Rows e.ID+((dN (some (gN f)) b.Rows e.ID e.aB).length:Int)+1) x)=some (ent (jY (bO b.Rows e.ID+((dN (some (gN f)) b.Rows e.ID e.aB).length:Int)+1) x))):
 Pw n ((((),f),(x.ID,(x.dw,(x.bP,(x.dn,(x.From,(x.To,(x.dH,(x.Vec,x.aQ))))))))),(b,e))=some (jV ent (some (gN f)) (some x) b e):=
 ak3 (d:=(some (gN f))) (uF:=fun a l q p=>WO n f x b e a l q p) (uG:=fun a u q p=>WQ n f x b e a u q p) (L:=fun a u q w m p=>WR n f x b e a u q w m p) hb hdl hn hv h1 hE (axH n f x b e) (axE n f x b e b.dL b.Rows) (ac7 (fun x=>akg ..) (axF n f x b e b.dL ((),bO b.Rows e.ID)) e.ID hb) (fun a u q w=>axG n f x b e a u q w)
theorem azw {n:Nat}{ent:Entry->Int}{b:Book}{e:Event}{f:Int}(hb:b.Rows.length<=65536)(hdl:b.dL.length<=2^30)(hn:2^20<n)(hv:bO b.Rows e.ID<=2^40)(h1:(oQ (some (gN f)) b.Rows e.ID e.aB).length<=1):
 Px n ((((),f),()),(b,e))=some (jV ent (some (gN f)) none b e):=
 ac8 (d:=(some (gN f))) (uF:=fun a l q p=>WS n f b e a l q p) (uG:=fun a u q p=>WT n f b e a u q p) (L:=fun a u q w m p=>WU n f b e a u q w m p) hb hdl hn hv h1 (axL n f b e) (axI n f b e b.dL b.Rows) (ac7 (fun x=>akg ..) (axJ n f b e b.dL ((),bO b.Rows e.ID)) e.ID hb) (fun a u q w=>axK n f b e a u q w)
theorem azx {n:Nat}{ent:Entry->Int}{b:Book}{e:Event}{o:Int}{v:Event}(hb:b.Rows.length<=65536)(hdl:b.dL.length<=2^30)(hn:2^20<n)(hv:bO b.Rows e.ID<=2^40)(h1:(oQ (some (iH o v.Until)) b.Rows e.ID e.aB).length<=1):
 Pz n ((((),(o,(v.Kind,(v.aB,(v.Day,(v.ID,(v.bP,(v.Until,(v.From,(v.Vec,(v.aQ,(v.aO.b0,(v.aO.b1,(v.aO.b2,(v.aO.b3,(v.aO.b4,(v.aO.b5,(v.aO.b6,(v.aO.b7,(v.aO.b8,(v.aO.b9,(v.aO.b10,(v.aO.b11,(v.aO.b12,(v.aO.b13,(v.aO.b14,v.aO.b15)))))))))))))))))))))))))),()),(b,e))=some (jV ent (some (iH o v.Until)) none b e):=
 ac8 (d:=(some (iH o v.Until))) (uF:=fun a l q p=>WV n o v b e a l q p) (uG:=fun a u q p=>WW n o v b e a u q p) (L:=fun a u q w m p=>WX n o v b e a u q w m p) hb hdl hn hv h1 (axQ n o v b e) (axN n o v b e b.dL b.Rows) (ac7 (fun x=>(by show Py n (x,_)=_;rw[axM];unfold iH;cases (x.From==o)<;>rfl)) (axO n o v b e b.dL ((),bO b.Rows e.ID)) e.ID hb) (fun a u q w=>axP n o v b e a u q w)
def yJ (d:fq)(id c:Int):List Row->Row->Row
 | [],r=>r|x::l,r=>yJ d id c l (bif dY d x.Entry then r else pX id x.Entry.From c r)
def rQ (d:fq)(id c:Int):List Row->List Row->List Row
 | [],rows=>rows|x::l,rows=>rQ d id c l (bif dY d x.Entry then rows else rows.map (pX id x.Entry.From c))
theorem ak4 (d:fq)(id c:Int):∀(l rows:List Row),rQ d id c l rows=rows.map (yJ d id c l)
 | [],rows=>by simp[rQ,yJ]|x::l,rows=>by
  show rQ d id c l _=_;rw[ak4 d id c l];cases h:dY d x.Entry
  ·show (rows.map (pX id x.Entry.From c)).map _=_
   rw[G5];congr 1;funext r;show yJ d id c l (pX id x.Entry.From c r)=yJ d id c l (bif dY d x.Entry then r else _);rw[h];rfl
  ·show rows.map (yJ d id c l)=_
   congr 1;funext r;show yJ d id c l r=yJ d id c l (bif dY d x.Entry then r else _);rw[h];rfl
theorem ak5 {id f c:Int}{r:Row}(h:¬(r.Entry.ID=id/\r.Entry.From=f/\r.fH=0)):pX id f c r=r:=by unfold pX;rw[if_neg fun hh=>h ⟨hh.1,hh.2.1,hh.2.2.1⟩]
theorem QO {d:fq}{id c:Int}:∀{l:List Row}{r:Row},(∀x∈l,dY d x.Entry=false->¬(r.Entry.ID=id/\r.Entry.From=x.Entry.From/\r.fH=0))->yJ d id c l r=r
 | [],r,_=>rfl|x::l,r,h=>by
  show yJ d id c l _=r;cases hs:dY d x.Entry
  ·rw[cond_false,ak5 (h x (fE ..) hs)]
   exact QO fun y hy=>h y (iK _ hy)
  ·exact QO fun y hy=>h y (iK _ hy)
theorem ac9 {d:fq}{id c:Int}(hc:c≠0):∀{l:List Row}{r:Row},r.Entry.ID=id->r.fH=0->r.Entry.dH<c->(∃x∈l,dY d x.Entry=false/\x.Entry.From=r.Entry.From)->yJ d id c l r=⟨r.Entry,c⟩
 | [],r,_,_,_,⟨x,hx,_⟩=>CJ|x::l,r,h1,h2,h3,⟨y,hy,hs,hf⟩=>by
  show yJ d id c l _=_;by_cases hx:dY d x.Entry=false/\x.Entry.From=r.Entry.From
  ·rw[hx.1,cond_false]
   have:pX id x.Entry.From c r=⟨r.Entry,c⟩:=by unfold pX;rw[if_pos ⟨h1,hx.2.symm,h2,h3⟩]
   rw[this];exact QO fun z _ _ hz=>hc hz.2.2
  ·have hl:∃x∈l,dY d x.Entry=false/\x.Entry.From=r.Entry.From:=by
    rcases iC.1 hy with rfl|hy
    ·exact absurd ⟨hs,hf⟩ hx
    ·exact⟨y,hy,hs,hf⟩
   cases hsx:dY d x.Entry
   ·rw[cond_false,ak5 fun hh=>hx ⟨hsx,hh.2.1.symm⟩]
    exact ac9 hc h1 h2 h3 hl
   ·exact ac9 hc h1 h2 h3 hl
theorem azy {d:fq}{id c:Int}{rows:List Row}{a z:Int}(hc:c≠0)(hb:∀r∈rows,r.Entry.dH<c)(hp:Path a (gM rows id) z):rQ d id c (gM rows id) rows=rows.map (lC d id c):=by
 rw[ak4];refine ED fun r hr=>?_;by_cases h:r.Entry.ID=id/\r.fH=0
 ·have hl:r∈gM rows id:=QG.2 ⟨hr,h.1,h.2⟩
  have hlv:dI id r=true:=by simp[dI,ig,h.1,h.2]
  cases hs:dY d r.Entry
  ·rw[ac9 hc h.1 h.2 (hb r hr) ⟨r,hl,hs,rfl⟩]
   unfold lC;rw[hlv,hs];rfl
  ·rw[Gz (by rw[hs];simp)]
   refine QO fun x hx hxs hh=>?_;have hlt:=hp.lt;obtain⟨i,hi,ei⟩:=List.getElem_of_mem hx;obtain⟨j,hj,ej⟩:=List.getElem_of_mem hl;rcases Nat.lt_trichotomy i j with hij|hij|hij
   ·have:=List.pairwise_iff_getElem.1 hlt i j hi hj hij
    rw[ei,ej] at this;have h1:x.Entry.From<r.Entry.From:=this;omega
   ·subst hij
    have:x=r:=ei.symm.trans ej;rw[this,hs] at hxs;cases hxs
   ·have:=List.pairwise_iff_getElem.1 hlt j i hj hi hij
    rw[ei,ej] at this;have h1:r.Entry.From<x.Entry.From:=this;omega
 ·have hlv:dI id r=false:=by
   simp only[dI,ig,Bool.and_eq_false_iff,beq_eq_false_iff_ne];by_cases h1:r.Entry.ID=id
   ·exact .inr fun h2=>h ⟨h1,h2⟩
   ·exact .inl h1
  rw[Gz (by rw[hlv];rfl)];exact QO fun x _ _ hh=>h ⟨hh.1,hh.2.2⟩
def pY (d:fq)(l:List Row):List eF:=l.map fun r=>⟨(d r.Entry).1,(d r.Entry).2⟩
theorem ak6 {n:Nat}{b:Book}{e:Event}{d:fq}{more:Entry}{L:List Row}(hn:2^20<n)(hL:L.length<=65536):∀(l P:List Row)(m:Nat)(v:Int)(rows added:List Row),L=P++l->l.length<m->rows.length<=65536->added.length<=P.length->0<=v->v+(l.length:Int)<=2^41->
 rP n b e L (pY d L) more m (v,(rows,(added,(P.length:Int))))=some (v+((l.filterMap (kC d e.aB)).length:Int),(rQ d e.ID e.aB l rows,added++fD v (l.filterMap (kC d e.aB))))
 | [],P,m,v,rows,added,hl,hm,hr,ha,hv,hv2=>by obtain⟨m,rfl⟩:∃m',m=m'+1:=⟨m-1,ah⟩;rw[lF] at hl;rw[acO,hl,zP,List.filterMap_nil];simp[fD,rQ]
 |r::l,P,m,v,rows,added,hl,hm,hr,ha,hv,hv2=>by
  obtain⟨m,rfl⟩:∃m',m=m'+1:=⟨m-1,ah⟩;rw[List.length_cons] at hm hv2;have hx:L[P.length]? =some r:=by rw[hl];simp
  have aBQ:P.length<L.length:=qL hx;have hd:(pY d L)[P.length]? =some ⟨(d r.Entry).1,(d r.Entry).2⟩:=by unfold pY;rw[List.getElem?_map,hx];rfl
  have step:∀(v':Int)(rows' QS:List Row),rows'.length<=65536->QS.length<=P.length+1->0<=v'->v'+(l.length:Int)<=2^41->
   rP n b e L (pY d L) more m (v',(rows',(QS,((P.length+1:Nat):Int))))=some (v'+((l.filterMap (kC d e.aB)).length:Int),(rQ d e.ID e.aB l rows',QS++fD v' (l.filterMap (kC d e.aB)))):=fun v' rows' QS h1 h2 h3 h4=>by
   have:=ak6 (b:=b) (e:=e) (d:=d) (more:=more) hn hL l (P++[r]) m v' rows' QS (by rw[hl];simp) ah h1 (by rw[bE];exact h2) h3 h4;rw[bE] at this;exact this
  have hw:wrap .i64 (v+(1:Int))=v+1:=So.wr ah ah;have ak7:=ayF (n:=n) (rows:=rows) (id:=e.ID) (Bh:=r.Entry.From) (commit:=e.aB) ah ah;have hdl:(rows.map (pX e.ID r.Entry.From e.aB)).length<=65536:=by rw[jS];exact hr
  rw[acO,ku hx,cond_true,jd ah,hw];refine bs (bH hx) (bs (bH hd) ?_);have after:dY d r.Entry=false->(bif decide ((d r.Entry).1< (d r.Entry).2) then bif dG (added.length+([(⟨(⟨r.Entry.ID,v+1,r.Entry.bP,r.Entry.dn,(d r.Entry).1,(d r.Entry).2,e.aB,r.Entry.Vec,r.Entry.aQ⟩:Entry),(0:Int)⟩:Row)].length)) 112 then rP n b e L (pY d L) more m ((v+1,(rows.map (pX e.ID r.Entry.From e.aB),(added++[(⟨(⟨r.Entry.ID,v+1,r.Entry.bP,r.Entry.dn,(d r.Entry).1,(d r.Entry).2,e.aB,r.Entry.Vec,r.Entry.aQ⟩:Entry),(0:Int)⟩:Row)],((P.length+1:Nat):Int)))))else none else rP n b e L (pY d L) more m ((v,(rows.map (pX e.ID r.Entry.From e.aB),(added,((P.length+1:Nat):Int))))))=some (v+(((r::l).filterMap (kC d e.aB)).length:Int),(rQ d e.ID e.aB (r::l) rows,added++fD v ((r::l).filterMap (kC d e.aB)))):=fun hs=>by
   have hda:rQ d e.ID e.aB (r::l) rows=rQ d e.ID e.aB l (rows.map (pX e.ID r.Entry.From e.aB)):=by show rQ d e.ID e.aB l _=_;rw[hs];rfl
   rw[hda];by_cases hft:(d r.Entry).1< (d r.Entry).2
   ·refine bJ (decide_eq_true hft) (bJ (qM rT ah) ?_)
    rw[step (v+1) _ _ hdl K8 ah ah,List.filterMap_cons_some (QH hs rfl hft),List.length_cons,jD];rw[show v+1+((l.filterMap (kC d e.aB)).length:Int)=v+((((l.filterMap (kC d e.aB)).length+1:Nat)):Int) by omega];rfl
   ·refine bW (decide_eq_false hft) ?_
    rw[step v _ _ hdl ah hv ah,List.filterMap_cons_none (Xe hs hft)]
  have same:dY d r.Entry=true->rP n b e L (pY d L) more m ((v,(rows,(added,((P.length+1:Nat):Int)))))=some (v+(((r::l).filterMap (kC d e.aB)).length:Int),(rQ d e.ID e.aB (r::l) rows,added++fD v ((r::l).filterMap (kC d e.aB)))):=fun hs=>by
   have hda:rQ d e.ID e.aB (r::l) rows=rQ d e.ID e.aB l rows:=by show rQ d e.ID e.aB l _=_;rw[hs];rfl
   rw[hda,step v _ _ hr ah hv ah,List.filterMap_cons_none (GA hs)]
  cases h1:((d r.Entry).1==r.Entry.From)
  ·have hs:dY d r.Entry=false:=by unfold dY;rw[h1];rfl
   refine bW rfl (bs ak7 (bs (bH hd) (bs (bH hd) ?_)));refine Eq.trans ?_ (after hs);cases decide ((d r.Entry).1< (d r.Entry).2)
   ·rfl
   ·exact bs (bH hd) (bs (bH hd) rfl)
  ·refine bJ rfl (bs (bH hd) ?_)
   cases h2:((d r.Entry).2==r.Entry.To)
   ·have hs:dY d r.Entry=false:=by unfold dY;rw[h1,h2];rfl
    refine bW rfl (bs ak7 (bs (bH hd) (bs (bH hd) ?_)));refine Eq.trans ?_ (after hs);cases decide ((d r.Entry).1< (d r.Entry).2)
    ·rfl
    ·exact bs (bH hd) (bs (bH hd) rfl)
   ·have hs:dY d r.Entry=true:=by unfold dY;rw[h1,h2];rfl
    exact bJ rfl (same hs)
abbrev Es (p:Book×Int):dh:=⟨p.1,p.2⟩
theorem ada {n:Nat}{ent:Entry->Int}{b:Book}{e:Event}{d:Option fq}{L:List Row}{to:List eF}{more:Entry}(hb:b.Rows.length<=65536)(hdl:b.dL.length<=2^30)(hn:2^20<n)(hm:more.ID=0)(hL:rP n b e L to more n (bO b.Rows e.ID,(b.Rows,([],(0:Int))))=some (bO b.Rows e.ID+((dN d b.Rows e.ID e.aB).length:Int),(jC d b.Rows e.ID e.aB,fD (bO b.Rows e.ID) (dN d b.Rows e.ID e.aB)))):
 Bd n (b,(e,(L,(to,more))))=some (Es (jV ent d none b e)):=by
 have hl:=KS d b.Rows e.ID e.aB;have h1:jV ent d none b e=bif decide (65536<b.Rows.length+(dN d b.Rows e.ID e.aB).length) then (b,2) else (⟨b.aN,e.aB,e.Day,b.dL++[e.Day],jC d b.Rows e.ID e.aB++fD (bO b.Rows e.ID) (dN d b.Rows e.ID e.aB)⟩,0):=by unfold jV;dsimp only[Bj];rw[lF,xk];rfl
 rw[h1,akp];refine bs (akX hb hn) (bs hL ?_);refine bW (by rw[hm];rfl) ?_;dsimp only;rw[xk,GI,So.wr ah ah];have e1:decide ((((b.Rows.length:Nat):Int))+(((dN d b.Rows e.ID e.aB).length:Nat):Int)> (65536:Int))=decide (65536<b.Rows.length+(dN d b.Rows e.ID e.aB).length):=decide_eq_decide.2 ah;rw[e1];cases decide (65536<b.Rows.length+(dN d b.Rows e.ID e.aB).length)
 ·rw[cond_false,cond_false]
  have r1:dG (0+b.dL.length) 8=true:=by unfold dG;rw[iP,decide_eq_true_iff,decide_eq_true_iff];omega
  have r2:dG (([]++b.dL).length+[e.Day].length) 8=true:=by unfold dG;rw[iP,decide_eq_true_iff,decide_eq_true_iff];simp only[List.nil_append,List.length_cons,List.length_nil];omega
  refine bJ r1 (bJ r2 (bJ (qM ah ah) (bJ (qM (by simp only[List.nil_append,GI];omega) ah) ?_)));rw[List.nil_append,List.nil_append]
 ·rfl
theorem ak8 {n:Nat}{ent:Entry->Int}{b:Book}{e:Event}{d:Option fq}{L:List Row}{to:List eF}{more:Entry}(hb:b.Rows.length<=65536)(hdl:b.dL.length<=2^30)(hn:2^20<n)(hv:bO b.Rows e.ID<=2^40)(hm:more.ID≠0)(hL:rP n b e L to more n (bO b.Rows e.ID,(b.Rows,([],(0:Int))))=some (bO b.Rows e.ID+((dN d b.Rows e.ID e.aB).length:Int),(jC d b.Rows e.ID e.aB,fD (bO b.Rows e.ID) (dN d b.Rows e.ID e.aB))))(hE:Bc n (b.aN,jY (bO b.Rows e.ID+((dN d b.Rows e.ID e.aB).length:Int)+1) more)=some (ent (jY (bO b.Rows e.ID+((dN d b.Rows e.ID e.aB).length:Int)+1) more))):
 Bd n (b,(e,(L,(to,more))))=some (Es (jV ent d (some more) b e)):=by
 have hl:=KS d b.Rows e.ID e.aB;have hv0:=KO b.Rows e.ID;have h1:jV ent d (some more) b e=bif ent (jY (bO b.Rows e.ID+((dN d b.Rows e.ID e.aB).length:Int)+1) more) !=0 then (b,ent (jY (bO b.Rows e.ID+((dN d b.Rows e.ID e.aB).length:Int)+1) more)) else bif decide (65536<b.Rows.length+((dN d b.Rows e.ID e.aB).length+1)) then (b,2) else (⟨b.aN,e.aB,e.Day,b.dL++[e.Day],jC d b.Rows e.ID e.aB++(fD (bO b.Rows e.ID) (dN d b.Rows e.ID e.aB)++[⟨jY (bO b.Rows e.ID+((dN d b.Rows e.ID e.aB).length:Int)+1) more,0⟩])⟩,0):=by unfold jV;dsimp only[Bj];rw[ak1,bE,xk];rfl
 have hw:wrap .i64 (bO b.Rows e.ID+((dN d b.Rows e.ID e.aB).length:Int)+(1:Int))=bO b.Rows e.ID+((dN d b.Rows e.ID e.aB).length:Int)+1:=So.wr ah ah;rw[h1,akp];generalize hmv:dN d b.Rows e.ID e.aB=mv at*;refine bs (akX hb hn) (bs hL ?_);refine bJ (bne_iff_ne.2 hm) ?_;dsimp only;rw[hw];refine bs hE ?_;cases hz:(ent (jY (bO b.Rows e.ID+(mv.length:Int)+1) more) !=0)
 ·rw[cond_false,cond_false]
  refine bJ (qM (by rw[xk];simp only[List.length_cons,List.length_nil];omega) ah) ?_;rw[bE,xk,GI,So.wr ah rT];have e1:decide ((((b.Rows.length:Nat):Int))+(((mv.length+[(⟨(⟨more.ID,bO b.Rows e.ID+(mv.length:Int)+1,more.bP,more.dn,more.From,more.To,more.dH,more.Vec,more.aQ⟩:Entry),(0:Int)⟩:Row)].length:Nat):Nat):Int)> (65536:Int))=decide (65536<b.Rows.length+(mv.length+1)):=decide_eq_decide.2 rT;rw[e1];cases decide (65536<b.Rows.length+(mv.length+1))
  ·rw[cond_false,cond_false]
   have r1:dG (0+b.dL.length) 8=true:=by unfold dG;rw[iP,decide_eq_true_iff,decide_eq_true_iff];omega
   have r2:dG (([]++b.dL).length+[e.Day].length) 8=true:=by unfold dG;rw[iP,decide_eq_true_iff,decide_eq_true_iff];simp only[List.nil_append,List.length_cons,List.length_nil];omega
   refine bJ r1 (bJ r2 (bJ (qM ah ah) (bJ (qM (by simp only[List.nil_append,GI,List.length_cons,List.length_nil];omega) ah) ?_)));rw[List.nil_append,List.nil_append];rfl
  ·rfl
 ·rfl
end Sh
end
section
open Go aY
namespace So
variable {α:Type}
section
variable {L1:Int->Int->Int->Nat->Int×List α->Option (PUnit×List α)}(h1:ajB L1)
include h1
theorem ak9 {A M B:List α}:∀(X2 nu gJ X1:List α)(m:Nat),X2.length=nu.length->gJ.length=X1.length->(A++(gJ++X2)++M++(X1++nu)++B).length<2^61->X2.length<m->
 L1 A.length ((A.length+(gJ.length+X2.length)+M.length:Nat):Int) ((gJ.length+X2.length:Nat):Int) m ((gJ.length:Nat),A++(gJ++X2)++M++(X1++nu)++B)=some ((),A++(gJ++nu)++M++(X1++X2)++B)
 | [],[],gJ,X1,m,_,_,_,hm=>by obtain⟨m,rfl⟩:∃m',m=m'+1:=⟨m-1,ah⟩;rw[h1];exact kK (decide_eq_false Rj) rfl
 |x::X2,y::nu,gJ,X1,m,h2,h3,hb,hm=>by
  obtain⟨m,rfl⟩:∃m',m=m'+1:=⟨m-1,ah⟩;simp only[bE,List.length_cons] at hb h2 hm;rw[h1];have ea:wrap .i64 ((A.length:Int)+(gJ.length:Int))=((A++gJ).length:Nat):=by rw[wr ah ah];simp
  have eb:wrap .i64 (((A.length+(gJ.length+(x::X2).length)+M.length:Nat):Int)+(gJ.length:Int))=((A++(gJ++x::X2)++M++X1).length:Nat):=by rw[wr ah Rh];simp only[bE,List.length_cons];omega
  have el:A++(gJ++x::X2)++M++(X1++y::nu)++B=(A++gJ)++x::(X2++M++X1++y::(nu++B)):=aC
  have er:A++(gJ++x::X2)++M++(X1++y::nu)++B=(A++(gJ++x::X2)++M++X1)++y::(nu++B):=aC
  have ia:aR (A++(gJ++x::X2)++M++(X1++y::nu)++B) (((A++gJ).length:Nat):Int)=some x:=by rw[el];exact tq _ _ _ rfl
  have ib:aR (A++(gJ++x::X2)++M++(X1++y::nu)++B) (((A++(gJ++x::X2)++M++X1).length:Nat):Int)=some y:=by rw[er];exact tq _ _ _ rfl
  have sa:iO (A++(gJ++x::X2)++M++(X1++y::nu)++B) (((A++gJ).length:Nat):Int) y=(A++(gJ++y::X2)++M++X1)++y::(nu++B):=by rw[el,set_mid _ _ _ _ rfl];simp
  have azz:(((A++(gJ++x::X2)++M++X1).length:Nat):Int)=(((A++(gJ++y::X2)++M++X1).length:Nat):Int):=aC
  have d1:decide ((0:Int)<=(((A++gJ).length:Nat):Int)/\(((A++gJ).length:Nat):Int)< (((A++(gJ++x::X2)++M++(X1++y::nu)++B).length:Nat):Int))=true:=uJ ah Cw;have d2:decide ((0:Int)<=(((A++(gJ++x::X2)++M++X1).length:Nat):Int)/\(((A++(gJ++x::X2)++M++X1).length:Nat):Int)< (((A++(gJ++x::X2)++M++(X1++y::nu)++B).length:Nat):Int))=true:=uJ ah Cw;refine mG (decide_eq_true Rh) ?_;rw[ea,eb];refine iM d2 (bd ib (iM d1 (bd ia (iM d1 (bd ia ?_)))));rw[sa,azz];refine iM (uJ ah Cw) (bd (tq _ _ _ rfl) ?_);rw[set_mid _ _ _ _ rfl];have:=ak9 (A:=A) (M:=M) (B:=B) X2 nu (gJ++[y]) (X1++[x]) m ah (by simp[h3]) oq ah;rw[wr ah ah];simp only[bE,List.length_cons,List.length_nil,jD,List.cons_append,List.nil_append] at this⊢;rw[show ((A.length+(gJ.length+(X2.length+1))+M.length:Nat):Int)=((A.length+(gJ.length+(0+1)+X2.length)+M.length:Nat):Int) by omega,show ((gJ.length+(X2.length+1):Nat):Int)=((gJ.length+(0+1)+X2.length:Nat):Int) by omega];exact this
end
section
variable {n:Nat}{Gm:Unit×Int×Int×Int×(Unit×Unit)->List α->Option (PUnit×List α)}(hs:∀(A X M Y B:List α),X.length=Y.length->(A++X++M++Y++B).length<2^61->X.length<n->Gm ((),(A.length:Int),((A.length+X.length+M.length:Nat):Int),(X.length:Int),((),())) (A++X++M++Y++B)=some ((),A++Y++M++X++B)){L2:Int->Nat->(Int×Int)×List α->Option (Int×List α)}(h2:ajC L2 Gm)
include hs h2
theorem azA {A B:List α}{m0:Int}:∀(k:Nat)(P X Y Q:List α)(m:Nat),X.length+Y.length=k->0<X.length->0<Y.length->m0=(A.length+P.length+X.length:Nat)->(A++(P++X++Y++Q)++B).length<2^61->k<m->k<n->
 ∃(P' X' Y' Q':List α),L2 m0 m (((X.length:Int),(Y.length:Int)),A++(P++X++Y++Q)++B)=some (((X'.length:Nat):Int),A++(P'++X'++Y'++Q')++B)/\X'.length=Y'.length/\m0=(A.length+P'.length+X'.length:Nat)/\P'++Y'++X'++Q'=P++Y++X++Q/\X'.length<=k:=by
 intro k;induction k using Nat.strongRecOn with
 |_ k ih=>
  intro P X Y Q m hk hx hy hm0 hb hm hn;obtain⟨m,rfl⟩:∃m',m=m'+1:=⟨m-1,ah⟩;simp only[bE] at hb;rw[h2];by_cases e:X.length=Y.length
  ·refine⟨P,X,Y,Q,kK z8 rfl,e,hm0,rfl,ah⟩
  ·rcases Nat.lt_or_gt_of_ne e with hlt|hgt
   ·
    have hY:=(tL (Y.length-X.length) Y).symm;generalize azB:Y.take (Y.length-X.length)=gJ at hY;generalize hY2:Y.drop (Y.length-X.length)=nu at hY;have l1:gJ.length=Y.length-X.length:=(by rw[<-azB,oz];omega);have l2:nu.length=X.length:=(by rw[<-hY2,yO];omega);have sp:=hs (A++P) X gJ nu (Q++B) l2.symm p8 ah;obtain⟨P',X',Y',Q',g1,g2,g3,g4,g5⟩:=ih (nu.length+gJ.length) ah P nu gJ (X++Q) m rfl ah ah ah p8 ah ah;refine⟨P',X',Y',Q',mG (by simp[e];omega) (kK (decide_eq_false ah) (bd (a:=((),A++P++nu++gJ++X++(Q++B))) ?_ ?_)),g2,g3,?_,ah⟩
    ·rw[wr (i:=m0-(X.length:Int)) ah ah,wr (i:=m0+(Y.length:Int)) ah ah,wr (i:=m0+(Y.length:Int)-(X.length:Int)) ah ah,
      show m0-(X.length:Int)=((A++P).length:Nat) by rw[hm0];simp only[bE];omega,show m0+(Y.length:Int)-(X.length:Int)=(((A++P).length+X.length+gJ.length:Nat):Int) by rw[hm0];simp only[bE];omega]
     rw[show A++(P++X++Y++Q)++B=A++P++X++gJ++nu++(Q++B) by rw[hY];simp];exact sp
    ·rw[wr ah ah,show (Y.length:Int)-(X.length:Int)=(gJ.length:Int) by omega,<-l2]
     rw[<-g1];simp
    ·rw[g4,hY];simp
   ·
    have hX:=(tL Y.length X).symm;generalize hX1:X.take Y.length=X1 at hX;generalize hX2:X.drop Y.length=X2 at hX;have l1:X1.length=Y.length:=(by rw[<-hX1,oz];omega);have l2:X2.length=X.length-Y.length:=(by rw[<-hX2,yO]);have sp:=hs (A++P) X1 X2 Y (Q++B) l1 p8 ah;obtain⟨P',X',Y',Q',g1,g2,g3,g4,g5⟩:=ih (X2.length+X1.length) ah (P++Y) X2 X1 Q m rfl ah ah (by rw[hm0];simp only[bE];omega) p8 ah ah;refine⟨P',X',Y',Q',mG (by simp[e];omega) (mG (decide_eq_true ah) (bd (a:=((),A++P++Y++X2++X1++(Q++B))) ?_ ?_)),g2,g3,?_,ah⟩
    ·rw[wr (i:=m0-(X.length:Int)) ah ah,
      show m0-(X.length:Int)=((A++P).length:Nat) by rw[hm0];simp only[bE];omega,show m0=(((A++P).length+X1.length+X2.length:Nat):Int) by rw[hm0];simp only[bE];omega,<-l1]
     rw[show A++(P++X++Y++Q)++B=A++P++X1++X2++Y++(Q++B) by rw[hX];simp];exact sp
    ·rw[wr ah ah,show (X.length:Int)-(Y.length:Int)=(X2.length:Int) by omega,<-l1]
     rw[<-g1];simp
    ·rw[g4,hX];simp
theorem azC {A U V B:List α}(hu:0<U.length)(hv:0<V.length)(hb:(A++(U++V)++B).length<2^61)(hn:U.length+V.length<n):((L2 ((A.length+U.length:Nat):Int) n (((U.length:Int),(V.length:Int)),A++(U++V)++B)).bind fun (dx:Int×List α)=>(Gm (((),(wrap .i64 (((A.length+U.length:Nat):Int)-dx.1),(((A.length+U.length:Nat):Int),(dx.1,((),())))))) dx.2).bind fun (cO:PUnit×List α)=>some (((),cO.2):PUnit×List α))=some ((),A++(V++U)++B):=by
 obtain⟨P',X',Y',Q',g1,g2,g3,g4,g5⟩:=azA hs h2 (A:=A) (B:=B) (m0:=((A.length+U.length:Nat):Int)) _ [] U V [] n rfl hu hv aC Cz hn hn;have hl:=congrArg List.length g4;simp only[bE,List.length_nil,nS,Nat.add_zero] at hl hb;refine bd (a:=(((X'.length:Nat):Int),A++(P'++X'++Y'++Q')++B)) (by rw[<-g1];simp) ?_;have sp:=hs (A++P') X' [] Y' (Q'++B) g2 (by simp only[bE,List.length_nil];omega) ah;rw[wr ah ah];refine bd (a:=((),A++P'++Y'++[]++X'++(Q'++B))) ?_ ?_
 ·rw[show ((A.length+U.length:Nat):Int)-((X'.length:Nat):Int)=((A++P').length:Nat) by rw[g3];simp only[bE];omega,show ((A.length+U.length:Nat):Int)=(((A++P').length+X'.length+([]:List α).length:Nat):Int) by rw[g3];simp only[bE,List.length_nil];omega]
  rw[show A++(P'++X'++Y'++Q')++B=A++P'++X'++[]++Y'++(Q'++B) by simp];exact sp
 ·have:A++P'++Y'++[]++X'++(Q'++B)=A++(P'++Y'++X'++Q')++B:=aC
  rw[this,g4];simp
end
end So
end
section
open Go aY
namespace So
variable {α:Type}
theorem azD {a:Int}(h0:0<=a)(h:a<2^62):md a=a/2:=by unfold md;rw[show wrap .i64 a=a from wr ah ah,IntKind.wrap_u64];have e:NQ .u64 (a% 18446744073709551616) 1=(a% 18446744073709551616).fdiv (2^1):=rfl;rw[e,Int.fdiv_eq_ediv_of_nonneg _ ah];rw[wr ah ah];omega
theorem bsearch {L:Nat->Int×Int->Option Int}(P:Nat->Prop)(lo hi:Nat)(hstep:∀(m i j:Nat),lo<=i->i<j->j<=hi->(P ((i+j)/2)->L (m+1) ((i:Int),(j:Int))=L m ((((i+j)/2+1:Nat):Int),(j:Int)))/\(¬P ((i+j)/2)->L (m+1) ((i:Int),(j:Int))=L m ((i:Int),(((i+j)/2:Nat):Int))))(hend:∀(m i:Nat),L (m+1) ((i:Int),(i:Int))=some (i:Int)):∀(k i j m:Nat),lo<=i->i<=j->j<=hi->j-i=k->k<m->∃r:Nat,L m ((i:Int),(j:Int))=some (r:Int)/\i<=r/\r<=j/\(i<r->P (r-1))/\(r<j->¬P r):=by
 intro k;induction k using Nat.strongRecOn with
 |_ k ih=>
  intro i j m hl hij hh hk hm;obtain⟨m,rfl⟩:∃m',m=m'+1:=⟨m-1,ah⟩;rcases Nat.eq_or_lt_of_le hij with rfl|hlt
  ·exact⟨i,hend m i,RS _,RS _,fun h=>absurd h (Nat.lt_irrefl _),fun h=>absurd h (Nat.lt_irrefl _)⟩
  ·obtain⟨s1,s2⟩:=hstep m i j hl hlt hh
   by_cases hp:P ((i+j)/2)
   ·obtain⟨r,h1,h2,h3,h4,h5⟩:=ih (j-((i+j)/2+1)) ah ((i+j)/2+1) j m ah ah hh rfl ah
    refine⟨r,(s1 hp).trans h1,ah,h3,fun _=>?_,h5⟩;rcases Nat.eq_or_lt_of_le h2 with e|e
    ·rw[<-e];exact hp
    ·exact h4 e
   ·obtain⟨r,h1,h2,h3,h4,h5⟩:=ih ((i+j)/2-i) ah i ((i+j)/2) m hl ah ah rfl ah
    refine⟨r,(s2 hp).trans h1,h2,ah,h4,fun _=>?_⟩;rcases Nat.eq_or_lt_of_le h3 with e|e
    ·rw[e];exact hp
    ·exact h5 e
theorem Xj {l:List α}{i:Nat}{x:α}(h:l[i]? =some x):aR l (i:Int)=some x:=by
 have hi:i<l.length:=by rw[oC] at h;exact h.1
 unfold aR;rw[if_pos ⟨ah,ah⟩];simpa using h
theorem KT {l:List α}{i:Nat}(h:i<l.length):decide ((0:Int)<=(i:Int)/\(i:Int)< (l.length:Int))=true:=uJ ah ah
theorem fP.le {key:α->Int}{l:List α}(h:fP key l){i j:Nat}{x y:α}(hij:i<=j)(hx:l[i]? =some x)(hy:l[j]? =some y):key x<=key y:=by
 rw[oC] at hx hy;obtain⟨h1,rfl⟩:=hx;obtain⟨h2,rfl⟩:=hy;rcases Nat.eq_or_lt_of_le hij with rfl|hlt
 ·exact Af _
 ·exact(List.pairwise_iff_getElem.1 h) i j h1 h2 hlt
section
variable {oo:Nat->Int->Nat->Int×List α->Option (PUnit×List α)}(h9:acw oo)
include h9
theorem fwd {g:Nat}{x:α}{B:List α}:∀(V A:List α)(m:Nat),(A++x::(V++B)).length<2^61->V.length<m->
 oo g ((A.length+1+V.length:Nat):Int) m ((A.length:Int),A++x::(V++B))=some ((),A++(V++x::B))
 | [],A,m,hb,hm=>by obtain⟨m,rfl⟩:∃m',m=m'+1:=⟨m-1,ah⟩;simp only[bE,List.length_cons] at hb;rw[h9,show wrap .i64 (((A.length+1+([]:List α).length:Nat):Int)-(1:Int))=(A.length:Int) by rw[wr ah Rj];simp only[List.length_nil];omega];exact kK (decide_eq_false ah) rfl
 |y::V,A,m,hb,hm=>by
  obtain⟨m,rfl⟩:∃m',m=m'+1:=⟨m-1,ah⟩;simp only[bE,List.length_cons] at hb hm;have e1:wrap .i64 ((A.length:Int)+(1:Int))=((A++[x]).length:Nat):=by rw[wr ah ah];simp
  have el:A++x::((y::V)++B)=(A++[x])++y::(V++B):=aC
  rw[h9,e1,show wrap .i64 (((A.length+1+(y::V).length:Nat):Int)-(1:Int))=((A.length+1+V.length:Nat):Int) by rw[wr ah Rh];simp only[List.length_cons];omega];refine mG (decide_eq_true ah) ?_;refine iM (uJ ah oq) (bd (a:=y) (by rw[el];exact tq _ _ _ rfl) ?_);refine iM (uJ ah oq) (bd (a:=x) (tq _ _ _ rfl) ?_);refine iM (uJ ah oq) (bd (a:=x) (tq _ _ _ rfl) ?_);rw[set_mid _ _ _ _ rfl,show A++y::((y::V)++B)=(A++[y])++y::(V++B) by simp,show (((A++[x]).length:Nat):Int)=(((A++[y]).length:Nat):Int) by simp];refine iM (uJ ah oq) (bd (tq _ _ _ rfl) ?_);rw[set_mid _ _ _ _ rfl];have:=fwd (g:=g) (x:=x) (B:=B) V (A++[y]) m oq ah;rw[show ((A.length+1+(y::V).length:Nat):Int)=(((A++[y]).length+1+V.length:Nat):Int) by simp only[bE,List.length_cons,List.length_nil];omega,this];simp
end
section
variable {zM:Nat->Int->Nat->Int×List α->Option (PUnit×List α)}(h21:acy zM)
include h21
theorem bwd {g:Nat}{x:α}{A:List α}:∀(k:Nat)(U B:List α)(m:Nat),U.length=k->(A++(U++x::B)).length<2^61->U.length<m->
 zM g (A.length:Int) m (((A.length+U.length:Nat):Int),A++(U++x::B))=some ((),A++(x::(U++B))):=by
 intro k;induction k with
 |zero=>intro U B m hU hb hm;obtain rfl:=lZ hU;obtain⟨m,rfl⟩:∃m',m=m'+1:=⟨m-1,ah⟩;rw[h21];exact kK (decide_eq_false Rj) rfl
 |succ k ih=>
  intro U B m hU hb hm;obtain⟨m,rfl⟩:∃m',m=m'+1:=⟨m-1,ah⟩;obtain⟨U,y,rfl⟩:∃S' y,U=S'++[y]:=by
   have hne:U≠[]:=by rintro rfl;simp at hU
   exact⟨U.dropLast,U.getLast hne,(List.dropLast_concat_getLast hne).symm⟩
  simp only[bE,List.length_cons,List.length_nil] at hb hm hU;have e1:wrap .i64 (((A.length+(U++[y]).length:Nat):Int)-(1:Int))=((A++U).length:Nat):=by rw[wr ah oq];simp only[bE,List.length_cons,List.length_nil];omega
  have e2:((A.length+(U++[y]).length:Nat):Int)=((A++U++[y]).length:Nat):=oq
  have el:A++((U++[y])++x::B)=(A++U)++y::x::B:=aC
  have er:A++((U++[y])++x::B)=(A++U++[y])++x::B:=aC
  rw[h21,e1];refine mG (decide_eq_true oq) ?_;refine iM (uJ ah oq) (bd (a:=y) (by rw[el];exact tq _ _ _ rfl) ?_);refine iM (uJ ah oq) (bd (a:=x) (by rw[er];exact tq _ _ _ e2) ?_);refine iM (uJ ah oq) (bd (a:=x) (by rw[er];exact tq _ _ _ e2) ?_);rw[er,set_mid _ _ _ _ e2,show A++U++[y]++y::B=(A++U)++y::y::B by simp];refine iM (uJ ah oq) (bd (tq _ _ _ rfl) ?_);rw[set_mid _ _ _ _ rfl];have:=ih U (y::B) m ah oq ah;rw[show (((A++U).length:Nat):Int)=((A.length+U.length:Nat):Int) by rw[bE],jD,this];simp
end
end So
end
section
open Go aY
namespace So
variable {α:Type}
theorem QT {i j:Nat}(h:i+j<2^61):md ((i:Int)+(j:Int))=(((i+j)/2:Nat):Int):=by rw[azD ah ah];omega
theorem Xk {A V B:List α}{h:Nat}(h1:A.length<=h)(h2:h<A.length+V.length):(A++(V++B))[h]? =V[h-A.length]? :=by rw[List.getElem?_append_right h1,GZ ah]
theorem adb {l:List α}{k:Nat}{v:α}(h:v∈l.take k):∃i,i<k/\l[i]? =some v:=by
 obtain⟨i,hi⟩:=List.getElem?_of_mem h;rw[List.getElem?_take] at hi;split at hi
 ·exact⟨i,by assumption,hi⟩
 ·cases hi
theorem ade {l:List α}{k:Nat}{v:α}(h:v∈l.drop k):∃i,k<=i/\l[i]? =some v:=by obtain⟨i,hi⟩:=List.getElem?_of_mem h;rw[List.getElem?_drop] at hi;exact⟨k+i,ah,hi⟩
theorem get_some {l:List α}{i:Nat}(h:i<l.length):∃v,l[i]? =some v:=⟨l[i],jM h⟩
theorem cut {key:α->Int}{V:List α}(hV:fP key V){k:Nat}(Q:Int->Prop)(hQ:∀a b,a<=b->Q b->Q a)(h1:0<k->∃v,V[k-1]? =some v/\Q (key v))(h2:k<V.length->∃v,V[k]? =some v/\¬Q (key v)):(∀v∈V.take k,Q (key v))/\∀v∈V.drop k,¬Q (key v):=by
 refine⟨fun v hv=>?_,fun v hv hq=>?_⟩
 ·obtain⟨i,hi,hg⟩:=adb hv
  obtain⟨w,hw,adf⟩:=h1 ah;exact hQ _ _ (hV.le ah hg hw) adf
 ·obtain⟨i,hi,hg⟩:=ade hv
  have hlt:i<V.length:=by rw[oC] at hg;exact hg.1
  obtain⟨w,hw,adf⟩:=h2 ah;exact adf (hQ _ _ (hV.le hi hw hg) hq)
section
variable {key:α->Int}{cmp:α×α->Option Int}(hc:QA key cmp){n:Nat}
include hc
section
variable {L3:Nat->Int->List α->Nat->Int×Int->Option Int}(h3:E3 cmp L3)
include h3
theorem s3 {g:Nat}{A V B:List α}{x:α}(hV:fP key V)(hb:(A++x::(V++B)).length<2^60)(hn:V.length<n):∃V1 V2,V=V1++V2/\L3 g (A.length:Int) (A++x::(V++B)) n (((A.length+1:Nat):Int),((A.length+1+V.length:Nat):Int))=some ((A.length+1+V1.length:Nat):Int)/\(∀v∈V1,key v<key x)/\∀v∈V2,¬key v<key x:=by
 have hD:A++x::(V++B)=(A++[x])++(V++B):=aC
 have hL:(A++[x]).length=A.length+1:=aC
 simp only[bE,List.length_cons] at hb;have hget:∀h,A.length+1<=h->h<A.length+1+V.length->(A++x::(V++B))[h]? =V[h-(A.length+1)]? :=fun h h1 h2=>by rw[hD,<-hL];exact Xk ah ah
 have hx:aR (A++x::(V++B)) (A.length:Int)=some x:=tq _ _ _ rfl;obtain⟨r,e1,e2,e3,e4,e5⟩:=bsearch (L:=fun m p=>L3 g (A.length:Int) (A++x::(V++B)) m p) (fun h=>∃v,V[h-(A.length+1)]? =some v/\key v<key x) (A.length+1) (A.length+1+V.length) (fun m i j hi hj hh=>by
  obtain⟨v,hv⟩:=get_some (l:=V) (i:=(i+j)/2-(A.length+1)) ah;have hv':=(hget ((i+j)/2) ah ah).trans hv;have hlt:(i+j)/2< (A++x::(V++B)).length:=Cw
  obtain⟨r,hr,zU⟩:=hc v x;have pre:∀z,(bif decide (r< (0:Int)) then L3 g (A.length:Int) (A++x::(V++B)) m ((((i+j)/2+1:Nat):Int),(j:Int)) else L3 g (A.length:Int) (A++x::(V++B)) m ((i:Int),(((i+j)/2:Nat):Int)))=z->L3 g (A.length:Int) (A++x::(V++B)) (m+1) ((i:Int),(j:Int))=z:=fun z hz=>by rw[h3,QT ah,show wrap .i64 ((((i+j)/2:Nat):Int)+(1:Int))=(((i+j)/2+1:Nat):Int) by rw[wr ah ah];omega];exact mG (decide_eq_true ah) (iM rfl (iM (KT hlt) (bd (Xj hv') (iM (KT Cw) (bd hx (bd hr hz))))))
  refine⟨fun hp=>pre _ (mG (decide_eq_true ?_) rfl),fun hp=>pre _ (kK (decide_eq_false fun h=>hp ⟨v,hv,zU.1 h⟩) rfl)⟩;obtain⟨w,hw,hk⟩:=hp;rw[hv] at hw;cases hw;exact zU.2 hk)
  (fun m i=>by show L3 g _ _ (m+1) _=_;rw[h3];exact kK aC rfl) _ (A.length+1) (A.length+1+V.length) n (RS _) ah (RS _) rfl ah
 obtain⟨c1,c2⟩:=cut hV (k:=r-(A.length+1)) (fun z=>z<key x) (fun a b h h'=>ah) (fun h=>by
  obtain⟨v,hv,hk⟩:=e4 ah;exact⟨v,by rw[<-hv];congr 1;omega,hk⟩) (fun h=>by
  obtain⟨v,hv⟩:=get_some h;exact⟨v,hv,fun hk=>e5 ah ⟨v,hv,hk⟩⟩)
 refine⟨_,_,(tL (r-(A.length+1)) V).symm,?_,c1,c2⟩;rw[oz,Lx ah,show A.length+1+(r-(A.length+1))=r by omega];exact e1
end
section
variable {rO:Nat->Int->List α->Nat->Int×Int->Option Int}(KU:acz cmp rO)
include KU
theorem s15 {g:Nat}{A U B:List α}{y:α}(hU:fP key U)(hb:(A++(U++y::B)).length<2^60)(hn:U.length<n):∃gW iI,U=gW++iI/\rO g ((A.length+U.length:Nat):Int) (A++(U++y::B)) n ((A.length:Int),((A.length+U.length:Nat):Int))=some ((A.length+gW.length:Nat):Int)/\(∀u∈gW,key u<=key y)/\∀u∈iI,¬key u<=key y:=by
 have hD:A++(U++y::B)=(A++U)++y::B:=aC
 simp only[bE,List.length_cons] at hb;have hget:∀h,A.length<=h->h<A.length+U.length->(A++(U++y::B))[h]? =U[h-A.length]? :=fun h h1 h2=>Xk h1 h2;have hx:aR (A++(U++y::B)) ((A.length+U.length:Nat):Int)=some y:=by rw[hD];exact tq _ _ _ aC
 obtain⟨r,e1,e2,e3,e4,e5⟩:=bsearch (L:=fun m p=>rO g ((A.length+U.length:Nat):Int) (A++(U++y::B)) m p) (fun h=>∃v,U[h-A.length]? =some v/\key v<=key y) A.length (A.length+U.length) (fun m i j hi hj hh=>by
  obtain⟨v,hv⟩:=get_some (l:=U) (i:=(i+j)/2-A.length) ah;have hv':=(hget ((i+j)/2) ah ah).trans hv;have hlt:(i+j)/2< (A++(U++y::B)).length:=Cw
  obtain⟨r,hr,zU⟩:=hc y v;have pre:∀z,(bif !(decide (r< (0:Int))) then rO g ((A.length+U.length:Nat):Int) (A++(U++y::B)) m ((((i+j)/2+1:Nat):Int),(j:Int)) else rO g ((A.length+U.length:Nat):Int) (A++(U++y::B)) m ((i:Int),(((i+j)/2:Nat):Int)))=z->rO g ((A.length+U.length:Nat):Int) (A++(U++y::B)) (m+1) ((i:Int),(j:Int))=z:=fun z hz=>by rw[KU,QT ah,show wrap .i64 ((((i+j)/2:Nat):Int)+(1:Int))=(((i+j)/2+1:Nat):Int) by rw[wr ah ah];omega];exact mG (decide_eq_true ah) (iM rfl (iM (KT Cw) (bd hx (iM (KT hlt) (bd (Xj hv') (bd hr hz))))))
  refine⟨fun hp=>pre _ (mG ?_ rfl),fun hp=>pre _ (kK ?_ rfl)⟩
  ·obtain⟨w,hw,hk⟩:=hp
   rw[hv] at hw;cases hw;rw[decide_eq_false (fun h=>by have:=zU.1 h;omega)];rfl
  ·rw[decide_eq_true (zU.2 (Int.not_le.1 fun h=>hp ⟨v,hv,h⟩))];rfl)
  (fun m i=>by show rO g _ _ (m+1) _=_;rw[KU];exact kK aC rfl) _ A.length (A.length+U.length) n (RS _) ah (RS _) rfl ah
 obtain⟨c1,c2⟩:=cut hU (k:=r-A.length) (fun z=>z<=key y) (fun a b h h'=>ah) (fun h=>by
  obtain⟨v,hv,hk⟩:=e4 ah;exact⟨v,by rw[<-hv];congr 1;omega,hk⟩) (fun h=>by
  obtain⟨v,hv⟩:=get_some h;exact⟨v,hv,fun hk=>e5 ah ⟨v,hv,hk⟩⟩)
 refine⟨_,_,(tL (r-A.length) U).symm,?_,c1,c2⟩;rw[oz,Lx ah,show A.length+(r-A.length)=r by omega];exact e1
end
end
end So
end
