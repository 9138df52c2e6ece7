import Derived.Test.YthadiihdjhakdaaGreatF2224
set_option linter.all false
namespace Go.Proofs.YthadiihdjhakdaaGreat.WO
open Go Go.ChangeShapes Go.WideShapes Go.ChangeAt Go.RowKit aR Sh
set_option maxRecDepth 100000
theorem aoM {l:List V}{v:V}(h:v∈l):ko v<=nQ l:=by
 induction l with
 |nil=>cases h|cons x l ih=>
  rcases fV.1 h with rfl|h
  ·show ko v<=ko v+nQ l;omega
  ·have:=ih h
   show ko v<=ko x+nQ l;omega
theorem ad2 {α:Type}(f:α->V){l:List α}{x:α}(h:x∈l):ko (f x)<=nQ (l.map f):=aoM (List.mem_map_of_mem h)
theorem TW {α:Type}(f:α->V)(hf:∀x,1<=ko (f x))(l:List α):l.length<=nQ (l.map f):=by
 induction l with
 |nil=>exact nI _|cons x l ih=>have:=hf x;show l.length+1<=ko (f x)+nQ (l.map f);omega
theorem aoN (d:Def):d.Name.length+d.Words.length+1<=ko (Def.v d)/\∀w∈d.Words,w.length+1<=ko (Def.v d):=by have e:ko (Def.v d)=(d.Name.length+1)+(1+(1+(1+(nQ (d.Words.map V.str)+1+0)))):=rfl;have h1:=TW V.str (fun x=>by simp[ko]) d.Words;refine⟨ah,fun w hw=>?_⟩;have h2:=ad2 V.str hw;have h3:ko (V.str w)=w.length+1:=rfl;omega
theorem aEj {s:aJ}{n k:Nat}(h:ko (aJ.v s)<=k)(hk:k<n)(hk2:k<2^62):oz s n:=by have e:ko (aJ.v s)=1+(1+(nQ (s.Defs.map Def.v)+1+0)):=rfl;have h1:=TW Def.v (fun x=>by have:=(aoN x).1;omega) s.Defs;refine⟨ah,ah,fun d hd=>?_⟩;have h2:=ad2 Def.v hd;have h3:=aoN d;have h4:=h3.1;refine⟨ah,ah,ah,ah,fun w hw=>?_⟩;have:=h3.2 w hw;exact⟨ah,ah⟩
theorem aoO (e:Sh.Event):e.Vec.length+e.bU.length+1<=ko (Event.v e):=by have h1:=TW iv (fun x=>iP _) e.Vec;have h2:=TW Attr.v (fun x=>by show 1<=(x.Name.length+1)+_;omega) e.bU;obtain⟨m,hm⟩:∃m,ko (Event.v e)=1+(1+(1+(1+(1+(1+(1+(nQ (e.Vec.map iv)+1+(nQ (e.bU.map Attr.v)+1+m)))))))):=⟨_,rfl⟩;omega
theorem aEk {l:List Sh.Event}{n k:Nat}(h:rz (l.map Event.v)+1<=k)(hk:k<n)(hk2:k<2^62):l.length<n/\l.length<2^62/\∀e∈l,adt e n:=by have h0:=Wy (l.map Event.v);have h1:=TW Event.v (fun x=>by have:=aoO x;omega) l;refine⟨ah,ah,fun x hx=>?_⟩;have h2:=ad2 Event.v hx;have h3:=aoO x;exact⟨ah,ah,ah,ah⟩
mutual
theorem aEl:∀p:Pred,iB p<=ko (Pred.vr p)
 | ⟨op,name,n,m,s,subs⟩=>by have:=ad3 subs;simp only[iB,Pred.vr,ko,nQ];omega
theorem ad3:∀l:List Pred,xB l<=nQ (Pred.vl l)
 | []=>nI _|p::l=>by have:=aEl p;have:=ad3 l;simp only[xB,Pred.vl,nQ];omega
end
theorem aEm (q:Sh.Query):iB q.Where<=kU (Sh.Query.v q):=by have h1:=abk (Sh.Query.v q);have h2:=ad3 q.Where.bS;rw[Pred.abp] at h2;have h3:=Tw q.Where;have hm:ko (.ay .sh (q.Where.bS.map Pred.vr))<=nQ q.c:=aoM (by unfold Sh.Query.c;simp);have e:ko (.ay .sh (q.Where.bS.map Pred.vr))=nQ (q.Where.bS.map Pred.vr)+1:=rfl;have e2:ko (Sh.Query.v q)=nQ q.c:=rfl;omega
end Go.Proofs.YthadiihdjhakdaaGreat.WO
