/- Part of the proof of a law. -/
import Derived.IntWalk
import Derived.Test.YteniejlbjfigdaaGreatDoorX16
set_option linter.all false
set_option linter.unusedSimpArgs false
set_option linter.unusedSectionVars false
section
open Go Go.Proofs Aq
namespace Sh
theorem qd {α:Type} (l:List α) (i:Nat):aL l (i:Int)=l[i]? :=by
 unfold aL
 by_cases h:i<l.length
 ·rw[if_pos ⟨by omega,by omega⟩];simp
 ·rw[if_neg (by omega)];simp;omega
theorem dZ {α:Type} {l:List α} {i:Nat} {x:α} (h:l[i]? =some x):aL l (i:Int)=some x:=by rw[qd,h]
theorem jr {α:Type} {l:List α} {i:Nat} {x:α} (h:l[i]? =some x):i<l.length:=by
 rw[List.getElem?_eq_some_iff] at h;exact h.1
theorem fq {α:Type} {l:List α} {i:Nat} {x:α} (h:l[i]? =some x):decide ((i:Int)< ((l.length:Nat):Int))=true:=by
 have:=jr h;simp;omega
theorem nX {α:Type} (l:List α):decide (((l.length:Nat):Int)< ((l.length:Nat):Int))=false:=by simp
theorem dF {i:Nat} (h:i<2^62):IntKind.wrap .i64 ((i:Int)+(1:Int))=((i+1:Nat):Int):=by
 rw[IntKind.wrap_i64];omega
def foldI {α β σ:Type} (step:α→Nat→σ→(σ→β)→β) (fin:σ→β):Nat→List α→σ→β
 |_,[],s=>fin s
 |i,x::l,s=>step x i s fun s=>foldI step fin (i+1) l s
theorem Tq {α β σ:Type} {L:Nat→σ→Int→Option β} {l:List α} (step:α→Nat→σ→(σ→Option β)→Option β) (fin:σ→Option β)
 (hs:∀m (i:Nat) x s,l[i]? =some x→L (m+1) s (i:Int)=step x i s fun s=>L m s ((i+1:Nat):Int)) (hf:∀m s,L (m+1) s ((l.length:Nat):Int)=fin s)
 (hc:∀x (i:Nat) s k k',(∀s,k s=k' s)→step x i s k=step x i s k'):∀(k i m:Nat) (s:σ),i+k=l.length→k<m→L m s (i:Int)=foldI step fin i (l.drop i) s:=by
 intro k
 induction k with
 |zero=>
  intro i m s hi hm
  obtain⟨m,rfl⟩:∃m',m=m'+1:=⟨m-1,by omega⟩
  obtain rfl:i=l.length:=by omega
  rw[hf,List.drop_length];rfl
 |succ k ih=>
  intro i m s hi hm
  obtain⟨m,rfl⟩:∃m',m=m'+1:=⟨m-1,by omega⟩
  have hlt:i<l.length:=by omega
  have hx:l[i]? =some l[i]:=List.getElem?_eq_getElem hlt
  rw[hs m i l[i] s hx,List.drop_eq_getElem_cons hlt]
  exact hc _ _ _ _ _ fun s=>ih (i+1) m s (by omega) (by omega)
theorem wI {α β:Type} {L:Nat→Int→Option β} {l:List α} (step:α→Nat→Option β→Option β) (fin:Option β)
 (hs:∀m (i:Nat) x,l[i]? =some x→L (m+1) (i:Int)=step x i (L m ((i+1:Nat):Int))) (hf:∀m,L (m+1) ((l.length:Nat):Int)=fin) {m:Nat} (hm:l.length<m):
 L m (0:Int)=foldI (σ:=Unit) (fun x i _ k=>step x i (k ())) (fun _=>fin) 0 l ():=by
 have:=Tq (L:=fun m (_:Unit) i=>L m i) (l:=l) (fun x i _ k=>step x i (k ())) (fun _=>fin) (fun m i x _ h=>hs m i x h) (fun m _=>hf m) (fun x i s k k' h=>by rw[h]) l.length 0 m () (by omega) hm
 simpa using this
theorem En {α:Type} {γ:Type} (p:α→Bool) (f:Nat→γ) (z:γ):∀(l:List α) (i:Nat),foldI (σ:=Unit) (fun x i _ (k:Unit→Option γ)=>bif p x then some (f i) else k ()) (fun _=>some z) i l ()=some (match l.findIdx? p with|some j=>f (i+j)|none=>z)
 | [],i=>rfl
 |x::l,i=>by
  show (bif p x then some (f i) else foldI _ _ (i+1) l ())=_
  rw[List.findIdx?_cons]
  cases hp:p x
  ·rw[cond_false,En p f z l (i+1)]
   simp only[Bool.false_eq_true,if_false]
   cases l.findIdx? p with
   |none=>rfl
   |some j=>simp only[Option.map_some];rw[Nat.add_right_comm,Nat.add_assoc]
  ·simp
def findD (s:aD) (x:List UInt8):Int:=match s.Defs.findIdx? (fun d=>d.Name==x) with
 |some i=>(i:Int)
 |none=> -1
theorem abT {n:Nat} {s:aD} {x:List UInt8} (h:s.Defs.length<n) (hb:s.Defs.length<2^62):yg n (s,x)=some (findD s x):=by
 have:=wI (L:=fun m i=>Jc n s x m i) (l:=s.Defs) (fun d i r=>bif d.Name==x then some (.inr (i:Int)) else r) (some (.inl ()))
  (fun m i d hd=>by
    have hlt:=jr hd
    rw[aa6,fq hd,dZ hd,dF (by omega)];rfl)
  (fun m=>by rw[aa6,nX];rfl) h
 rw[alm,this,En (fun d:Def=>d.Name==x) (fun i=>(Sum.inr (i:Int):PUnit⊕Int)) (.inl ())]
 unfold findD
 cases s.Defs.findIdx? (fun d=>d.Name==x) with
 |none=>rfl
 |some j=>simp;rfl
theorem abU {n:Nat} {l:List (List UInt8)} {x:List UInt8} (h:l.length<n) (hb:l.length<2^62):vS n (l,x)=some (l.any (· ==x)):=by
 have:=wI (L:=fun m i=>Ja n l x m i) (l:=l) (fun d i r=>bif d==x then some (.inr true) else r) (some (.inl ()))
  (fun m i d hd=>by
    have hlt:=jr hd
    rw[aaY,fq hd,dZ hd,dF (by omega)];rfl)
  (fun m=>by rw[aaY,nX];rfl) h
 rw[ald,this,En (fun d:List UInt8=>d==x) (fun i=>(Sum.inr true:PUnit⊕Bool)) (.inl ())]
 cases hf:l.findIdx? (fun d=>d==x) with
 |none=>
  rw[List.findIdx?_eq_none_iff] at hf
  have:l.any (· ==x)=false:=by rw[List.any_eq_false];intro y hy;simpa using hf y hy
  rw[this];rfl
 |some j=>
  obtain⟨hj,h2,_⟩:=List.findIdx?_eq_some_iff_getElem.1 hf
  have:l.any (· ==x)=true:=by rw[List.any_eq_true];exact⟨l[j],List.getElem_mem hj,h2⟩
  rw[this];rfl
theorem qg {τ β:Type} {L:Nat→τ→Option β} (Inv:τ→Prop) (mu:τ→Nat) (Post:β→Prop)
 (h:∀m p,Inv p→(∀p',Inv p'→mu p'<mu p→∃r,L m p'=some r∧Post r)→∃r,L (m+1) p=some r∧Post r):∀m p,Inv p→mu p<m→∃r,L m p=some r∧Post r
 |0,p,_,hm=>by omega
 |m+1,p,hp,hm=>h m p hp fun p' hp' hlt=>qg Inv mu Post h m p' hp' (by omega)
theorem eP {α:Type} {P:α→Prop} {c:Bool} {a b:Option α} (ha:c=true→∃r,a=some r∧P r) (hb:c=false→∃r,b=some r∧P r):∃r,(bif c then a else b)=some r∧P r:=by
 cases c
 ·exact hb rfl
 ·exact ha rfl
theorem aW {α β:Type} {P:β→Prop} {o:Option α} {f:α→Option β} (h:∃x,o=some x∧∃r,f x=some r∧P r):∃r,o.bind f=some r∧P r:=by
 obtain⟨x,hx,h⟩:=h
 rw[hx];exact h
theorem bZ {α:Type} {P:α→Prop} {a:α} (h:P a):∃r,some a=some r∧P r:=⟨a,rfl,h⟩
theorem abV {α:Type} {l:List α} {i:Int} (h1:0≤i) (h2:decide (i< ((l.length:Nat):Int))=true):∃x,aL l i=some x:=by
 obtain⟨j,rfl⟩:=Int.eq_ofNat_of_zero_le h1
 rw[qd]
 exact⟨l[j]'(by simp at h2;omega),List.getElem?_eq_getElem _⟩
theorem JB {α:Type} {c:Bool} {o:Option α} {d:α} (h:c=true→∃x,o=some x):∃x,iG c o d=some x:=by
 cases c
 ·exact⟨d,rfl⟩
 ·exact h rfl
theorem amB {n:Nat} {e:Entry} (h:e.aM.length<n) (hb:e.aM.length<2^62):∃b,xU n e=some b:=by
 obtain⟨r,hr,_⟩:=qg (L:=fun m i=>wh n e m i) (fun i=>0≤i∧i≤e.aM.length) (fun i=>(e.aM.length-i).toNat) (fun _=>True)
  (fun m i hi ih=>by
    rw[Tj]
    refine eP (fun hc=> ?_) (fun _=>bZ trivial)
    have hc':decide (i< ((e.aM.length:Nat):Int))=true:=by
     revert hc;cases decide (i< ((e.aM.length:Nat):Int))<;>simp
    obtain⟨x,hx⟩:=abV hi.1 hc'
    refine aW ⟨x,hx, ?_⟩
    rw[hx]
    obtain⟨y,hy⟩:=JB (c:= !(decide ((((x.Name.length:Nat):Int))> ((300:Int))))) (o:=some x) (d:=(⟨[],(0:Int),(0:Int),[]⟩:Attr)) (fun _=>⟨x,rfl⟩)
    refine aW ⟨y,hy, ?_⟩
    refine eP (fun _=>bZ trivial) (fun _=> ?_)
    have h3:=of_decide_eq_true hc'
    rw[IntKind.wrap_i64]
    have e2:(i+1+9223372036854775808)% 18446744073709551616-9223372036854775808=i+1:=by omega
    rw[e2]
    exact ih _ ⟨by omega,by omega⟩ (by omega)) n (0:Int) ⟨by omega,by omega⟩ (by simpa using h)
 rw[aaT,hr]
 cases r with
 |inl q=>exact⟨_,rfl⟩
 |inr q=>exact⟨_,rfl⟩
end Sh
end
section
open Go Go.Proofs Aq
namespace Sh
def keeps (H:Pred→List Attr→Bool) (b:Book) (r:Row) (day:Int) (x:Law):Bool:=decide (IntKind.wrap .i64 (day+x.bV)≥b.Day)&& H x.Where r.Entry.aM
theorem Tt {α γ:Type} (p:α→Bool) (f z:γ):∀(l:List α) (i:Nat),foldI (σ:=Unit) (fun x _ _ (k:Unit→Option γ)=>bif p x then some f else k ()) (fun _=>some z) i l ()=some (bif l.any p then f else z)
 | [],i=>rfl
 |x::l,i=>by
  show (bif p x then some f else foldI _ _ (i+1) l ())=_
  rw[List.any_cons]
  cases p x
  ·exact Tt p f z l (i+1)
  ·rfl
theorem amC {n:Nat} {H:Pred→List Attr→Bool} {laws:List Law} {b:Book} {x4 fl:Int} {r:Row} {day:Int} (hd:aL b.bV (IntKind.wrap .i64 (r.cO-1))=some day)
 (hH:∀x∈laws,vY n (x.Where,r.Entry.aM)=some (H x.Where r.Entry.aM)) (h:laws.length<n) (hb:laws.length<2^62):
 yT n laws b x4 r n (fl,(0:Int))=some (bif laws.any (keeps H b r day) then IntKind.wrap .i64 (r.cO-1) else fl):=by
 have:=wI (L:=fun m i=>yT n laws b x4 r m (fl,i)) (l:=laws) (fun x _ k=>bif keeps H b r day x then some (IntKind.wrap .i64 (r.cO-1)) else k) (some fl)
  (fun m i x hx=>by
    have hlt:=jr hx
    have hm:x∈laws:=List.mem_of_getElem? hx
    rw[abN,fq hx,dZ hx,dF (by omega)]
    simp only[cond_true,Option.bind_some,Pred.sw]
    rw[hd]
    simp only[Option.bind_some,hH x hm]
    unfold keeps
    cases decide (IntKind.wrap .i64 (day+x.bV)≥b.Day)<;>rfl)
  (fun m=>by rw[abN,nX];rfl) h
 rw[this,Tt]
def JC (H:Pred→List Attr→Bool) (laws:List Law) (b:Book):List Row→Int→Int
 | [],fl=>fl
 |r::l,fl=>JC H laws b l (if 1≤r.cO∧r.cO≤fl∧laws.any (keeps H b r ((aL b.bV (IntKind.wrap .i64 (r.cO-1))).getD 0))=true then IntKind.wrap .i64 (r.cO-1) else fl)
theorem abW {H:Pred→List Attr→Bool} {laws:List Law} {b:Book}:∀(l:List Row) (i:Nat) (fl:Int),
 foldI (fun r _ fl (k:Int→Option Int)=>k (if 1≤r.cO∧r.cO≤fl∧laws.any (keeps H b r ((aL b.bV (IntKind.wrap .i64 (r.cO-1))).getD 0))=true then IntKind.wrap .i64 (r.cO-1) else fl)) (fun fl=>some fl) i l fl=some (JC H laws b l fl)
 | [],i,fl=>rfl
 |r::l,i,fl=>abW l (i+1) _
def BookOK (b:Book):Prop:=∀r∈b.Rows,1≤r.cO→∃day,aL b.bV (IntKind.wrap .i64 (r.cO-1))=some day
theorem abX {n:Nat} {H:Pred→List Attr→Bool} {laws:List Law} {b:Book} (hk:BookOK b) (hH:∀r∈b.Rows,∀x∈laws,vY n (x.Where,r.Entry.aM)=some (H x.Where r.Entry.aM)) (h:laws.length<n) (hb:laws.length<2^62)
 (hr:b.Rows.length<n) (hrb:b.Rows.length<2^62):qW n (laws,b)=some (JC H laws b b.Rows b.aH):=by
 have:=Tq (L:=fun m fl i=>yU n laws b m (fl,i)) (l:=b.Rows) (fun r _ fl k=>k (if 1≤r.cO∧r.cO≤fl∧laws.any (keeps H b r ((aL b.bV (IntKind.wrap .i64 (r.cO-1))).getD 0))=true then IntKind.wrap .i64 (r.cO-1) else fl)) (fun fl=>some fl)
  (fun m i r fl hx=>by
    have hlt:=jr hx
    have hm:r∈b.Rows:=List.mem_of_getElem? hx
    rw[abO,fq hx,dZ hx,dF (by omega)]
    simp only[cond_true,Option.bind_some]
    by_cases h1:r.cO<1
    ·rw[if_neg (by omega)];simp[h1]
    ·by_cases h2:r.cO>fl
     ·rw[if_neg (by omega)];simp[h2]
     ·obtain⟨day,Eo⟩:=hk r hm (by omega)
      have e:(bif decide (r.cO< (1:Int)) then true else decide (r.cO>fl))=false:=by simp[h1,h2]
      rw[e,cond_false,amC Eo (hH r hm) h hb,Option.bind_some,Eo]
      congr 2
      cases hany:laws.any (keeps H b r day)
      ·rw[if_neg (by simp[hany])];rfl
      ·rw[if_pos ⟨by omega,by omega,by simp[hany]⟩];rfl)
  (fun m fl=>by rw[abO,nX];rfl) (fun x i s k k' h=>h _) b.Rows.length 0 n b.aH (by omega) hr
 rw[amu]
 have e:yU n laws b n (b.aH,(0:Int))=_:=this
 rw[e,List.drop_zero,abW];rfl
end Sh
end
section
open Go Go.Proofs Aq
namespace Sh
def rz (l:List Attr) (x:List UInt8):Option Attr:=l.find? fun a=>a.Name==x
mutual
def jg (l:List Attr):Pred→Bool
 | ⟨op,name,n,m,s,subs⟩=>
   if op=1 then true else if op=2 then JD l subs else if op=3 then anyS l subs else if op=4 then !anyS l subs else
   if op=5 then (rz l name).isSome else
   if op=6 then (match rz l name with|some a=>a.Kind==(1:Int)&& decide (a.N≥n)&& decide (a.N≤m)|none=>false) else
   if op=7 then (match rz l name with|some a=>a.Kind==(2:Int)&& a.S==s|none=>false) else false
def JD (l:List Attr):List Pred→Bool
 | []=>true
 |p::ps=>jg l p&& JD l ps
def anyS (l:List Attr):List Pred→Bool
 | []=>false
 |p::ps=>jg l p||anyS l ps
end
mutual
def iT:Pred→Nat
 | ⟨_,_,_,_,_,subs⟩=>oQ subs+1
def oQ:List Pred→Nat
 | []=>0
 |p::ps=>iT p+oQ ps
end
theorem NW (p:Pred):1≤iT p:=by cases p;simp[iT]
theorem abY (p:Pred):iT p=oQ p.bS+1:=by cases p;simp[iT]
theorem Tv:∀l:List Pred,l.length≤oQ l
 | []=>by simp
 |p::l=>by have:=Tv l;have:=NW p;simp[oQ];omega
theorem Tw:∀{l:List Pred} {p:Pred},p∈l→iT p≤oQ l
 | [],_,h=>by simp at h
 |q::l,p,h=>by
  rcases List.mem_cons.1 h with rfl|h
  ·simp[oQ]
  ·have:=Tw h;simp[oQ];omega
theorem abZ (l:List Attr):∀ps:List Pred,JD l ps=ps.all (jg l)
 | []=>rfl
 |p::ps=>by rw[JD,abZ l ps,List.all_cons]
theorem ab0 (l:List Attr):∀ps:List Pred,anyS l ps=ps.any (jg l)
 | []=>rfl
 |p::ps=>by rw[anyS,ab0 l ps,List.any_cons]
theorem Tx {α:Type} (p:α→Bool):∀l:List α,(match l.findIdx? p with|some j=>l[j]? |none=>none)=l.find? p
 | []=>rfl
 |a::l=>by
  rw[List.findIdx?_cons,List.find?_cons]
  cases hp:p a
  ·have:=Tx p l
   simp only[Bool.false_eq_true,if_false]
   cases h:l.findIdx? p with
   |none=>rw[h] at this;simpa using this
   |some j=>rw[h] at this;simpa using this
  ·simp
theorem amD {n:Nat} {l:List Attr} {x:List UInt8} (h:l.length<n) (hb:l.length<2^62):vX n (l,x)=some (match rz l x with|some a=>(a,true)|none=>(⟨[],0,0,[]⟩,false)):=by
 have:=wI (L:=fun m i=>Jw n l x m i) (l:=l) (fun d i r=>bif d.Name==x then some (.inr (i:Int)) else r) (some (.inl ()))
  (fun m i d hd=>by
    have hlt:=jr hd
    rw[abJ,fq hd,dZ hd,dF (by omega)]
    simp only[cond_true,Option.bind_some,amh];rfl)
  (fun m=>by rw[abJ,nX];rfl) h
 rw[amj,ami,this,En (fun d:Attr=>d.Name==x) (fun i=>(Sum.inr (i:Int):PUnit⊕Int)) (.inl ())]
 have hg:=Tx (fun d:Attr=>d.Name==x) l
 unfold rz
 rw[←hg]
 cases hf:l.findIdx? (fun d=>d.Name==x) with
 |none=>rfl
 |some j=>
  obtain⟨hj,_,_⟩:=List.findIdx?_eq_some_iff_getElem.1 hf
  simp only[Option.bind_some,Sum.elim_inr,Nat.zero_add]
  have e:decide (((j:Nat):Int)< (0:Int))=false:=by simp
  show (bif decide (((j:Nat):Int)< (0:Int)) then (some ((⟨[],(0:Int),(0:Int),[]⟩:Attr),false):Option (Attr×Bool)) else (aL l ((j:Nat):Int)).bind fun r4=>some (r4,true))=_
  rw[e,cond_false,qd,List.getElem?_eq_getElem hj];rfl
end Sh
end
section
open Go Go.Proofs Aq
namespace Sh
theorem amE {n g:Nat} {l:List Attr} {p:Pred} (hH:∀x∈p.bS,sQ n g (l,x)=some (jg l x)) (hn:p.bS.length<n) (hb:p.bS.length<2^62):IV n (g+1) (l,p)=some (JD l p.bS):=by
 have:=wI (L:=fun m i=>Jy n g l p m i) (l:=p.bS) (fun x _ r=>bif !(jg l x) then some (.inr false) else r) (some (.inl ()))
  (fun m i x hx=>by
    have hlt:=jr hx
    rw[abK,fq hx,dZ hx,dF (by omega)]
    simp only[cond_true,Option.bind_some,Pred.sw]
    rw[hH x (List.mem_of_getElem? hx)];rfl)
  (fun m=>by rw[abK,nX];rfl) hn
 rw[amo,this,Tt (fun x=> !(jg l x)) (Sum.inr false:PUnit⊕Bool) (.inl ())]
 rw[abZ]
 cases h:p.bS.any fun x=> !(jg l x)
 ·have:p.bS.all (jg l)=true:=by
   rw[List.all_eq_true];rw[List.any_eq_false] at h
   intro x hx;have:=h x hx;simpa using this
  rw[this];rfl
 ·have:p.bS.all (jg l)=false:=by
   rw[List.all_eq_false];rw[List.any_eq_true] at h
   obtain⟨x,hx,h2⟩:=h
   exact⟨x,hx,by simpa using h2⟩
  rw[this];rfl
theorem ab1 {n g:Nat} {l:List Attr} {ps:List Pred} (hH:∀x∈ps,sQ n g (l,x)=some (jg l x)) (hn:ps.length<n) (hb:ps.length<2^62):IW n (g+2) (ps,(l,()))=some (anyS l ps):=by
 have:=wI (L:=fun m i=>Jz n g ps l m i) (l:=ps) (fun x i r=>bif jg l x then some (.inr (i:Int)) else r) (some (.inl ()))
  (fun m i x hx=>by
    have hlt:=jr hx
    rw[abM,fq hx,dZ hx,dF (by omega)]
    simp only[cond_true,Option.bind_some,Pred.sw]
    rw[hH x (List.mem_of_getElem? hx)];rfl)
  (fun m=>by rw[abM,nX];rfl) hn
 rw[amq,amr,this,En (jg l) (fun i=>(Sum.inr (i:Int):PUnit⊕Int)) (.inl ())]
 rw[ab0]
 cases hf:ps.findIdx? (jg l) with
 |none=>
  rw[List.findIdx?_eq_none_iff] at hf
  have:ps.any (jg l)=false:=by rw[List.any_eq_false];intro y hy;simpa using hf y hy
  rw[this];rfl
 |some j=>
  obtain⟨hj,h2,_⟩:=List.findIdx?_eq_some_iff_getElem.1 hf
  have:ps.any (jg l)=true:=by rw[List.any_eq_true];exact⟨ps[j],List.getElem_mem hj,h2⟩
  rw[this]
  show some (decide (((0+j:Nat):Int)≥(0:Int)))=some true
  rw[decide_eq_true (by omega)]
theorem ab2 {n:Nat} {l:List Attr} (h:l.length<n) (hb:l.length<2^62):∀(k g:Nat) (p:Pred),iT p≤k→6*iT p≤g→iT p<n→iT p<2^62→sQ n g (l,p)=some (jg l p)
 |0,g,p,hk,_,_,_=>by have:=NW p;omega
 |k+1,g,p,hk,hg,hn,hp=>by
  have hs:=abY p
  have hlen:=Tv p.bS
  have hpos:=NW p
  obtain⟨g,rfl⟩:∃g',g=g'+6:=⟨g-6,by omega⟩
  have hsub:∀g',g≤g'→∀x∈p.bS,sQ n g' (l,x)=some (jg l x):=fun g' hg' x hx=>by
   have:=Tw hx
   exact ab2 h hb k g' x (by omega) (by omega) (by omega) (by omega)
  have hand:=amE (n:=n) (g:=g+4) (l:=l) (p:=p) (hsub _ (by omega)) (by omega) (by omega)
  have hor:DY n (g+5) (l,p)=some (anyS l p.bS):=by
   rw[abL,ab1 (n:=n) (g:=g+2) (hsub _ (by omega)) (by omega) (by omega)];rfl
  have hnot:IX n (g+5) (l,p)=some (!anyS l p.bS):=by
   rw[ams,Pred.sw,abL,ab1 (n:=n) (g:=g+1) (hsub _ (by omega)) (by omega) (by omega)];rfl
  have hget:=amD (n:=n) (l:=l) (x:=p.Name) h hb
  have hhas:DR n (l,p)=some (rz l p.Name).isSome:=by
   rw[amk,hget];cases rz l p.Name<;>rfl
  have amF:DU n (l,p)=some (match rz l p.Name with|some a=>a.Kind==(1:Int)&& decide (a.N≥p.N)&& decide (a.N≤p.M)|none=>false):=by
   rw[aml,hget]
   cases rz l p.Name with
   |none=>rfl
   |some a=>
    change some _=some _
    congr 1
    change (bif bif bif true then a.Kind==(1:Int) else false then decide (a.N≥p.N) else false then decide (a.N≤p.M) else false)=(a.Kind==(1:Int)&& decide (a.N≥p.N)&& decide (a.N≤p.M))
    cases a.Kind==(1:Int)<;>cases decide (a.N≥p.N)<;>cases decide (a.N≤p.M)<;>rfl
  have hword:DW n (l,p)=some (match rz l p.Name with|some a=>a.Kind==(2:Int)&& a.S==p.S|none=>false):=by
   rw[amm,hget]
   cases rz l p.Name with
   |none=>rfl
   |some a=>
    change some _=some _
    congr 1
    change (bif bif true then a.Kind==(2:Int) else false then a.S==p.S else false)=(a.Kind==(2:Int)&& a.S==p.S)
    cases a.Kind==(2:Int)<;>cases a.S==p.S<;>rfl
  have hall:DI n (l,p)=some true:=by rw[amg]
  rw[amn]
  simp only[Pred.sw]
  rw[hall,hand,hor,hnot,hhas,amF,hword]
  obtain⟨op,name,a,b,s,subs⟩:=p
  unfold jg
  dsimp only
  by_cases o1:op=1
  · (simp[o1];try rfl)
  ·have b1:(op==(1:Int))=false:=by simpa using o1
   rw[b1,if_neg o1]
   by_cases o2:op=2
   · (simp[o2];try rfl)
   ·have b2:(op==(2:Int))=false:=by simpa using o2
    rw[b2,if_neg o2]
    by_cases o3:op=3
    · (simp[o3];try rfl)
    ·have b3:(op==(3:Int))=false:=by simpa using o3
     rw[b3,if_neg o3]
     by_cases o4:op=4
     · (simp[o4];try rfl)
     ·have b4:(op==(4:Int))=false:=by simpa using o4
      rw[b4,if_neg o4]
      by_cases o5:op=5
      · (simp[o5];try rfl)
      ·have b5:(op==(5:Int))=false:=by simpa using o5
       rw[b5,if_neg o5]
       by_cases o6:op=6
       · (simp[o6];try rfl)
       ·have b6:(op==(6:Int))=false:=by simpa using o6
        rw[b6,if_neg o6]
        by_cases o7:op=7
        · (simp[o7];try rfl)
        ·have b7:(op==(7:Int))=false:=by simpa using o7
         rw[b7,if_neg o7];rfl
theorem amG {n:Nat} {l:List Attr} {p:Pred} (h:l.length<n) (hb:l.length<2^62) (hp:6*iT p<n) (hq:iT p<2^62):vY n (p,l)=some (jg l p):=by
 have e:DX n (l,p)=sQ n n (l,p):=by unfold DX;rfl
 rw[amt,Pred.sw,e,ab2 h hb (iT p) n p (Nat.le_refl _) (by omega) (by omega) hq];rfl
end Sh
end
section
open Go Go.Proofs Aq
namespace Sh
theorem sV {α β σ:Type} {L:Nat→σ→Int→Option β} {l:List α} (hs:∀m (i:Nat) x s,l[i]? =some x→(∀s,∃r,L m s ((i+1:Nat):Int)=some r)→∃r,L (m+1) s (i:Int)=some r) (hf:∀m s (i:Nat),l.length≤i→∃r,L (m+1) s (i:Int)=some r):
 ∀(k i m:Nat) (s:σ),l.length≤i+k→k<m→∃r,L m s (i:Int)=some r:=by
 intro k
 induction k with
 |zero=>
  intro i m s hi hm
  obtain⟨m,rfl⟩:∃m',m=m'+1:=⟨m-1,by omega⟩
  exact hf m s i (by omega)
 |succ k ih=>
  intro i m s hi hm
  obtain⟨m,rfl⟩:∃m',m=m'+1:=⟨m-1,by omega⟩
  by_cases h:l.length≤i
  ·exact hf m s i h
  ·exact hs m i _ s (List.getElem?_eq_getElem (by omega)) fun s=>ih (i+1) m s (by omega) (by omega)
theorem iU {α:Type} {l:List α} {i:Nat} (h:l.length≤i):decide ((i:Int)< ((l.length:Nat):Int))=false:=by simp;omega
def mD (s:aD) (n:Nat):Prop:=s.Defs.length<n∧s.Defs.length<2^62∧∀d∈s.Defs,d.Name.length<n∧d.Name.length<2^62∧d.Words.length<n∧d.Words.length<2^62∧∀w∈d.Words,w.length<n∧w.length<2^62
theorem ab3 {n:Nat} {x:List UInt8} (h:x.length<n) (hb:x.length<2^62) (hn:6<n):∃b:Bool,xW n x=some b:=by
 obtain⟨r,hr⟩:=sV (L:=fun m (_:Unit) i=>wu n x m i) (l:=x)
  (fun m i c _ hc ih=>by
    have hlt:=jr hc
    show∃r,wu n x (m+1) (i:Int)=some r
    rw[aaZ,fq hc,dZ hc,dF (by omega),cond_true,Option.bind_some]
    cases (bif !(bif decide ((((c.toNat:Nat):Int))≥((97:Int))) then decide ((((c.toNat:Nat):Int))≤((122:Int))) else false) then bif (i:Int)==((0:Int)) then true else !(bif bif decide ((((c.toNat:Nat):Int))≥((48:Int))) then decide ((((c.toNat:Nat):Int))≤((57:Int))) else false then true else (((c.toNat:Nat):Int))==((95:Int))) else false)
    ·exact ih ()
    ·exact⟨_,rfl⟩)
  (fun m _ i hi=>by
    show∃r,wu n x (m+1) (i:Int)=some r
    rw[aaZ,iU hi];exact⟨_,rfl⟩) x.length 0 n () (by omega) h
 have hr':wu n x n (0:Int)=some r:=hr
 rw[ale,hr']
 cases r with
 |inl q=>
  obtain⟨b,hb'⟩:=JB (c:=bif decide ((((x.length:Nat):Int))≥((1:Int))) then decide ((((x.length:Nat):Int))≤((40:Int))) else false) (o:=vS n (([[(97:UInt8),(108:UInt8),(108:UInt8)],[(97:UInt8),(110:UInt8),(100:UInt8)],[(104:UInt8),(97:UInt8),(115:UInt8)],[(105:UInt8),(110:UInt8)],[(110:UInt8),(111:UInt8),(116:UInt8)],[(111:UInt8),(114:UInt8)]],x))) (d:=false) (fun _=>⟨_,abU (show 6<n from hn) (show 6<2^62 by omega)⟩)
  rw[Option.bind_some]
  show∃b,Option.bind (iG _ _ _) _=some b
  rw[hb']
  exact⟨_,rfl⟩
 |inr q=>exact⟨q,rfl⟩
theorem amH {n:Nat} {l:List (List UInt8)} (h:l.length<n) (hb:l.length<2^62) (hw:∀w∈l,w.length<n∧w.length<2^62) (hn:6<n):∃e:Int,Bq n l=some e:=by
 rw[alf]
 cases (bif decide ((((l.length:Nat):Int))< ((1:Int))) then true else decide ((((l.length:Nat):Int))> ((50:Int))))
 ·obtain⟨r,hr⟩:=sV (L:=fun m (_:Unit) i=>wz n l m i) (l:=l)
   (fun m i c _ hc ih=>by
     have hlt:=jr hc
     show∃r,wz n l (m+1) (i:Int)=some r
     obtain⟨b,hb'⟩:=ab3 (hw c (List.mem_of_getElem? hc)).1 (hw c (List.mem_of_getElem? hc)).2 hn
     rw[aa0,fq hc,dZ hc,dF (by omega),cond_true,Option.bind_some,hb']
     cases b
     ·exact⟨_,rfl⟩
     ·exact ih ())
   (fun m _ i hi=>by
     show∃r,wz n l (m+1) (i:Int)=some r
     rw[aa0,iU hi];exact⟨_,rfl⟩) l.length 0 n () (by omega) h
  have hr':wz n l n (0:Int)=some r:=hr
  rw[cond_false,hr',Option.bind_some]
  cases r with
  |inr q=>exact⟨q,rfl⟩
  |inl q=>
   obtain⟨r,hr2⟩:=sV (L:=fun m (_:Unit) i=>wB n l m (i+1)) (l:=l.tail)
    (fun m i c _ hc ih=>by
      have hc':l[i+1]? =some c:=by rw[List.getElem?_tail] at hc;exact hc
      have hlt:=jr hc'
      show∃r,wB n l (m+1) ((i:Int)+1)=some r
      have ei:(i:Int)+1=((i+1:Nat):Int):=by omega
      have e0:IntKind.wrap .i64 (((i+1:Nat):Int)-(1:Int))=(i:Int):=by rw[IntKind.wrap_i64];omega
      have hi0:l[i]? =some l[i]:=List.getElem?_eq_getElem (by omega)
      rw[ei,aa1,fq hc',dZ hc',dF (by omega),e0,dZ hi0,cond_true,Option.bind_some,Option.bind_some]
      cases (Go.Op.bytesLess c l[i]||c==l[i])
      ·have:=ih ()
       have e1:(((i+1:Nat):Int))+1=((i+1+1:Nat):Int):=by omega
       simp only[e1] at this
       exact this
      ·exact⟨_,rfl⟩)
    (fun m _ i hi=>by
      show∃r,wB n l (m+1) ((i:Int)+1)=some r
      have ei:(i:Int)+1=((i+1:Nat):Int):=by omega
      rw[ei,aa1,iU (by rw[List.length_tail] at hi;omega)];exact⟨_,rfl⟩) l.length 0 n () (by rw[List.length_tail];omega) h
   have hr2':wB n l n (1:Int)=some r:=hr2
   rw[Sum.elim_inl,hr2',Option.bind_some]
   cases r with
   |inl q=>exact⟨0,rfl⟩
   |inr q=>exact⟨q,rfl⟩
 ·exact⟨_,rfl⟩
theorem iV {α:Type} {c:Bool} {a b:Option α} (ha:∃r,a=some r) (hb:∃r,b=some r):∃r,(bif c then a else b)=some r:=by
 cases c
 ·exact hb
 ·exact ha
theorem amI {n:Nat} {d:Def} {x:List UInt8} (h:d.Name.length<n∧d.Name.length<2^62∧d.Words.length<n∧d.Words.length<2^62∧∀w∈d.Words,w.length<n∧w.length<2^62) (hn:6<n):∃e:Int,Bt n (d,x)=some e:=by
 obtain⟨b,hb⟩:=ab3 h.1 h.2.1 hn
 obtain⟨e,he⟩:=amH h.2.2.1 h.2.2.2.1 h.2.2.2.2 hn
 rw[alh,hb]
 show∃e:Int,(bif !b then some ((5:Int)) else _)=some e
 refine iV ⟨_,rfl⟩ (iV ⟨_,rfl⟩ (iV (iV ⟨_,rfl⟩ (iV ⟨_,rfl⟩ ⟨_,rfl⟩)) (iV (iV ⟨_,rfl⟩ ?_) ⟨_,rfl⟩)))
 rw[he];exact⟨e,rfl⟩
theorem ab4 {n:Nat} {s:aD} (h:mD s n) (hn:6<n):∃e:Int,xY n s=some e:=by
 obtain⟨h1,h2,h3⟩:=h
 obtain⟨b,hb⟩:=JB (c:= !(bif decide (s.fF< ((1:Int))) then true else decide (s.fF> ((32:Int))))) (o:=Bl n s.gB) (d:=false) (fun _=>by rw[alc];exact⟨_,rfl⟩)
 obtain⟨r,hr⟩:=sV (L:=fun m (x:List UInt8) i=>wC n s m (x,i)) (l:=s.Defs)
  (fun m i d x hd ih=>by
    have hlt:=jr hd
    show∃r,wC n s (m+1) (x,(i:Int))=some r
    obtain⟨e,he⟩:=amI (x:=x) (h3 d (List.mem_of_getElem? hd)) hn
    rw[aa2,fq hd,dZ hd,dF (by omega),cond_true,Option.bind_some,he]
    show∃r,(bif e !=(0:Int) then _ else _)=some r
    exact iV ⟨_,rfl⟩ (ih _))
  (fun m x i hi=>by
    show∃r,wC n s (m+1) (x,(i:Int))=some r
    rw[aa2,iU hi];exact⟨_,rfl⟩) s.Defs.length 0 n [] (by omega) h1
 have hr':wC n s n ([],(0:Int))=some r:=hr
 rw[ali]
 show∃e:Int,Option.bind (iG _ _ _) _=some e
 rw[hb]
 show∃e:Int,(bif _ then some ((1:Int)) else _)=some e
 refine iV ⟨_,rfl⟩ (iV ⟨_,rfl⟩ ?_)
 rw[hr',Option.bind_some]
 cases r with
 |inl q=>exact⟨0,rfl⟩
 |inr q=>exact⟨q,rfl⟩
theorem amJ {n:Nat} {s:aD} {k:Int} (h:mD s n):∃b:Bool,Bh n (s,k)=some b:=by
 obtain⟨h1,h2,h3⟩:=h
 obtain⟨r,hr⟩:=sV (L:=fun m (_:Unit) i=>wo n s k m i) (l:=s.Defs)
  (fun m i d _ hd ih=>by
    have hlt:=jr hd
    obtain⟨w1,w2,w3,w4,w5⟩:=h3 d (List.mem_of_getElem? hd)
    show∃r,wo n s k (m+1) (i:Int)=some r
    obtain⟨r,hr⟩:=sV (L:=fun m (_:Unit) j=>wm n s k (i:Int) d m j) (l:=d.Words)
     (fun m j w _ hw ih=>by
       have hlt:=jr hw
       show∃r,wm n s k (i:Int) d (m+1) (j:Int)=some r
       rw[aaW,fq hw,dZ hw,dF (by omega),cond_true,Option.bind_some]
       exact iV ⟨_,rfl⟩ (ih ()))
     (fun m _ j hj=>by
       show∃r,wm n s k (i:Int) d (m+1) (j:Int)=some r
       rw[aaW,iU hj];exact⟨_,rfl⟩) d.Words.length 0 n () (by omega) w3
    have hr':wm n s k (i:Int) d n (0:Int)=some r:=hr
    rw[aaX,fq hd,dZ hd,dF (by omega),Option.bind_some,hr']
    refine iV (iV ⟨_,rfl⟩ ?_) ⟨_,rfl⟩
    cases r with
    |inl q=>exact ih ()
    |inr q=>exact⟨_,rfl⟩)
  (fun m _ i hi=>by
    show∃r,wo n s k (m+1) (i:Int)=some r
    rw[aaX,iU hi];exact⟨_,rfl⟩) s.Defs.length 0 n () (by omega) h1
 have hr':wo n s k n (0:Int)=some r:=hr
 rw[alb,hr',Option.bind_some]
 cases r with
 |inl q=>exact⟨_,rfl⟩
 |inr q=>exact⟨q,rfl⟩
end Sh
end
section
open Go Go.Proofs Aq
namespace Sh
def JE (p:Pred):Bool:=
 if (p.Op<5∧p.Name≠[])∨(p.Op≠6∧(p.N≠0∨p.M≠0))∨(p.Op≠7∧p.S≠[]) then false else
 if p.N>p.M then false else
 if p.Op=2∨p.Op=3 then decide (p.bS≠[]) else
 if p.Op=4 then decide (p.bS.length=1) else decide (p.bS=[])
theorem amK {α:Type} (l:List α):decide (((l.length:Nat):Int)> (0:Int))=decide (l≠[]):=by
 cases l with
 |nil=>simp
 |cons a l=>simp<;>omega
theorem amL {α:Type} (l:List α):(((l.length:Nat):Int)==(0:Int))=decide (l=[]):=by
 cases l with
 |nil=>simp
 |cons a l=>simp<;>omega
theorem amM (n:Nat) (p:Pred):D8 n p=some (JE p):=by
 obtain⟨op,name,a,b,s,subs⟩:=p
 rw[amw]
 simp only[amK,amL]
 have key:(bif bif bif bif decide (op< ((5:Int))) then decide (name≠[]) else false then true else bif op !=((6:Int)) then bif a !=((0:Int)) then true else b !=((0:Int)) else false then true else bif op !=((7:Int)) then decide (s≠[]) else false then
  some false
  else
   bif decide (a>b) then
    some false
   else
    bif bif op==((2:Int)) then true else op==((3:Int)) then
     some (decide (subs≠[]))
    else
     bif op==((4:Int)) then
      some ((((subs.length:Nat):Int))==((1:Int)))
     else
      some (decide (subs=[])))=some (JE ⟨op,name,a,b,s,subs⟩):=by
  unfold JE
  dsimp only
  by_cases c1:(op<5∧name≠[])∨(op≠6∧(a≠0∨b≠0))∨(op≠7∧s≠[])
  ·rw[if_pos c1]
   have:(bif bif bif decide (op< ((5:Int))) then decide (name≠[]) else false then true else bif op !=((6:Int)) then bif a !=((0:Int)) then true else b !=((0:Int)) else false then true else bif op !=((7:Int)) then decide (s≠[]) else false)=true:=by
    simp only[Bool.cond_true_right,Bool.cond_false_right,Bool.cond_true_left,Bool.or_eq_true,Bool.and_eq_true,decide_eq_true_iff,bne_iff_ne]
    rcases c1 with c|c|c
    ·exact .inl (.inl c)
    ·exact .inl (.inr c)
    ·exact .inr c
   rw[this];rfl
  ·rw[if_neg c1]
   have:(bif bif bif decide (op< ((5:Int))) then decide (name≠[]) else false then true else bif op !=((6:Int)) then bif a !=((0:Int)) then true else b !=((0:Int)) else false then true else bif op !=((7:Int)) then decide (s≠[]) else false)=false:=by
    rw[Bool.eq_false_iff]
    intro h
    simp only[Bool.cond_true_right,Bool.cond_false_right,Bool.cond_true_left,Bool.or_eq_true,Bool.and_eq_true,decide_eq_true_iff,bne_iff_ne] at h
    rcases h with (h|h)|h
    ·exact c1 (.inl h)
    ·exact c1 (.inr (.inl h))
    ·exact c1 (.inr (.inr h))
   rw[this,cond_false]
   by_cases c2:a>b
   ·rw[if_pos c2,decide_eq_true c2];rfl
   ·rw[if_neg c2,decide_eq_false c2,cond_false]
    by_cases c3:op=2∨op=3
    ·rw[if_pos c3]
     have:(bif op==((2:Int)) then true else op==((3:Int)))=true:=by rcases c3 with rfl|rfl<;>rfl
     rw[this];rfl
    ·rw[if_neg c3]
     have:(bif op==((2:Int)) then true else op==((3:Int)))=false:=by
      rw[Bool.eq_false_iff];intro h;simp at h;exact c3 h
     rw[this,cond_false]
     by_cases c4:op=4
     ·rw[if_pos c4,c4]
      show some _=some _
      congr 1
      rw[Bool.eq_iff_iff];simp;omega
     ·rw[if_neg c4]
      have:(op==(4:Int))=false:=by simpa using c4
      rw[this];rfl
 exact key
end Sh
end
section
open Go Go.Proofs Aq
namespace Sh
def rA:List Pred→List Pred→List Pred
 |acc,[]=>acc
 |acc,x::l=>if acc.length<1000 then rA (acc++(pre x).take 1000) l else acc
theorem ab5:∀(l acc:List Pred),(rA acc l).take 1000=(acc++jZ l).take 1000
 | [],acc=>by simp[rA,jZ]
 |x::l,acc=>by
  rw[rA,jZ]
  split
  ·rename_i h
   rw[ab5 l,←List.append_assoc]
   by_cases h2:(pre x).length≤1000
   ·rw[List.take_of_length_le h2]
   ·have l1:1000≤(acc++(pre x).take 1000).length:=by rw[List.length_append,List.length_take];omega
    have l2:1000≤(acc++pre x).length:=by rw[List.length_append];omega
    rw[List.take_append_of_le_length l1,List.take_append_of_le_length l2,List.take_append,List.take_append,List.take_take]
    congr 2;omega
  ·rename_i h
   rw[List.take_append_of_le_length (by omega)]
theorem amN {a:Nat} (h:a<2000):bN a 80=true:=by
 unfold bN
 rw[Bool.and_eq_true,decide_eq_true_iff,decide_eq_true_iff]
 exact⟨by omega,by omega⟩
theorem ab6 {n:Nat}:∀(g:Nat) (p:Pred),iT p≤g→iT p<n→iT p<2^62→D6 n g p=some ((pre p).take 1000)
 |0,p,hg,_,_=>by have:=NW p;omega
 |g+1,p,hg,hn,hp=>by
  have hs:=abY p
  have hlen:=Tv p.bS
  have:=Tq (L:=fun m (s:List Pred) i=>wH n g p m (s,i)) (l:=p.bS) (fun x _ s k=>if s.length<1000 then k (s++(pre x).take 1000) else some s) (fun s=>some s)
   (fun m i x s hx=>by
     have hlt:=jr hx
     have hm:x∈p.bS:=List.mem_of_getElem? hx
     have hsz:=Tw hm
     show wH n g p (m+1) (s,(i:Int))=_
     rw[abP,fq hx,dZ hx,dF (by omega)]
     simp only[cond_true,Option.bind_some,Pred.sw]
     rw[ab6 g x (by omega) (by omega) (by omega)]
     by_cases h:s.length<1000
     ·have e:decide (((s.length:Nat):Int)< (1000:Int))=true:=by simp;omega
      have hl:((pre x).take 1000).length≤1000:=by simp;omega
      rw[e,if_pos h,cond_true]
      show (bif bN (s.length+((pre x).take 1000).length) 80 then _ else none)=_
      rw[amN (by omega)];rfl
     ·have e:decide (((s.length:Nat):Int)< (1000:Int))=false:=by simp;omega
      rw[e,if_neg h];rfl)
   (fun m s=>by
     show wH n g p (m+1) (s,((p.bS.length:Nat):Int))=_
     rw[abP,nX];rfl) (fun x i s k k' hk=>by rw[hk]) p.bS.length 0 n [p] (by omega) (by omega)
  have key:∀(l:List Pred) (i:Nat) (s:List Pred),foldI (fun (x:Pred) (_:Nat) (s:List Pred) (k:List Pred→Option (List Pred))=>if s.length<1000 then k (s++(pre x).take 1000) else some s) (fun s=>some s) i l s=some (rA s l):=by
   intro l
   induction l with
   |nil=>intro i s;rfl
   |cons x l ih=>
    intro i s
    show (if s.length<1000 then foldI _ _ (i+1) l (s++(pre x).take 1000) else some s)=_
    rw[rA]
    split
    ·exact ih (i+1) _
    ·rfl
  rw[List.drop_zero,key] at this
  have Tz:wH n g p n ([p],(0:Int))=some (rA [p] p.bS):=this
  rw[amv,Pred.sw,Tz,Option.bind_some,pre_eq]
  have ht:=ab5 p.bS [p]
  have e2:Int.toNat (1000:Int)=1000:=rfl
  by_cases h:(rA [p] p.bS).length>1000
  ·have e:decide ((((rA [p] p.bS).length:Nat):Int)> (1000:Int))=true:=by simp;omega
   have e3:jL (1000:Int) (rA [p] p.bS).length=true:=by unfold jL;simp;omega
   rw[e,cond_true,e3,cond_true,e2,ht];rfl
  ·have e:decide ((((rA [p] p.bS).length:Nat):Int)> (1000:Int))=false:=by simp;omega
   rw[e,cond_false]
   rw[List.take_of_length_le (by omega)] at ht
   rw[ht];rfl
theorem amO {n:Nat} {p:Pred} (hn:iT p<n) (hp:iT p<2^62):yL n p=some ((pre p).take 1000):=by
 have e:yL n p=D6 n n p:=by unfold yL;rfl
 rw[e,ab6 n p (by omega) hn hp]
end Sh
end
section
open Go Go.Proofs Aq
namespace Sh
def sW (s:aD) (x:Pred):Option Int:=
 if x.Op<1∨x.Op>7 then some 1 else
 if JE x=false then some 3 else
 if x.Op<5 then none else
 match s.Defs.find? (fun d=>d.Name==x.Name) with
 |none=>some 5
 |some d=>if (x.Op=6∧d.Kind≠1)∨(x.Op=7∧d.Kind≠2) then some 130 else none
def JF (s:aD):List Pred→Option Int
 | []=>none
 |x::l=>match sW s x with
  |some e=>some e
  |none=>JF s l
theorem ab7 {α:Type} (c:α→Option Int):∀(l:List α) (i:Nat),foldI (σ:=Unit) (fun x _ _ (k:Unit→Option (PUnit⊕Int))=>match c x with|some e=>some (Sum.inr e:PUnit⊕Int)|none=>k ()) (fun _=>some (Sum.inl ():PUnit⊕Int)) i l ()=some (match l.findSome? c with|some e=>(Sum.inr e:PUnit⊕Int)|none=>.inl ())
 | [],i=>rfl
 |x::l,i=>by
  show (match c x with|some e=>some (Sum.inr e:PUnit⊕Int)|none=>foldI _ _ (i+1) l ())=_
  rw[List.findSome?_cons]
  cases c x with
  |none=>exact ab7 c l (i+1)
  |some e=>rfl
theorem ab8 (s:aD):∀l:List Pred,JF s l=l.findSome? (sW s)
 | []=>rfl
 |x::l=>by
  rw[JF,List.findSome?_cons,ab8 s l];cases sW s x<;>rfl
theorem amP {n:Nat} {s:aD} {p:Pred} (hn:iT p<n) (hp:iT p<2^62) (hd:s.Defs.length<n) (hdb:s.Defs.length<2^62) (hk:1000<n):
 vZ n (s,p)=some (if ((pre p).take 1000).length>64 then 2 else (JF s ((pre p).take 1000)).getD 0):=by
 generalize hl:(pre p).take 1000=l
 have hlen:l.length≤1000:=by rw[←hl,List.length_take];omega
 have:=wI (L:=fun m i=>uK n s l m i) (l:=l) (fun x _ r=>match sW s x with|some e=>some (Sum.inr e:PUnit⊕Int)|none=>r) (some (.inl ()))
  (fun m i x hx=>by
    have hlt:=jr hx
    show uK n s l (m+1) (i:Int)=_
    rw[abQ,fq hx,dZ hx,dF (by omega)]
    simp only[cond_true,Option.bind_some,Pred.sw]
    rw[amM,abT hd hdb]
    unfold sW
    by_cases c1:x.Op<1∨x.Op>7
    ·rw[if_pos c1]
     have:(bif decide (x.Op< ((1:Int))) then true else decide (x.Op> ((7:Int))))=true:=by
      rcases c1 with c|c
      ·rw[decide_eq_true c];rfl
      ·rw[decide_eq_true c];cases decide (x.Op<1)<;>rfl
     rw[this];rfl
    ·rw[if_neg c1]
     have:(bif decide (x.Op< ((1:Int))) then true else decide (x.Op> ((7:Int))))=false:=by
      rw[decide_eq_false (by omega),decide_eq_false (by omega)];rfl
     rw[this,cond_false]
     cases hform:JE x
     ·rw[if_pos rfl];rfl
     ·rw[if_neg (by simp)]
      show (bif !true then some (.inr ((3:Int))) else bif decide (x.Op< ((5:Int))) then _ else _)=_
      by_cases c2:x.Op<5
      ·rw[if_pos c2,decide_eq_true c2];rfl
      ·rw[if_neg c2,decide_eq_false c2]
       have hg:=Tx (fun d:Def=>d.Name==x.Name) s.Defs
       rw[←hg]
       rw[Bool.not_true,cond_false,cond_false]
       show Option.bind (some (findD s x.Name)) _=_
       rw[Option.bind_some]
       unfold findD
       cases hf:s.Defs.findIdx? (fun d=>d.Name==x.Name) with
       |none=>rfl
       |some j=>
        obtain⟨hj,_,_⟩:=List.findIdx?_eq_some_iff_getElem.1 hf
        have hi:aL s.Defs ((j:Nat):Int)=some s.Defs[j]:=by rw[qd,List.getElem?_eq_getElem hj]
        dsimp only
        rw[List.getElem?_eq_getElem hj,hi]
        dsimp only
        have e:decide (((j:Nat):Int)< (0:Int))=false:=by simp
        rw[e,cond_false]
        generalize s.Defs[j]=d
        have o:x.Op=5∨x.Op=6∨x.Op=7:=by omega
        by_cases k1:d.Kind=1<;>by_cases k2:d.Kind=2<;>rcases o with o|o|o<;>simp[o,k1,k2,iG]<;>first
         | (have h1:(d.Kind !=(1:Int))=true:=bne_iff_ne.2 (by omega);rw[h1];rfl)
         | (have h2:(d.Kind !=(2:Int))=true:=bne_iff_ne.2 (by omega);rw[h2];rfl))
  (fun m=>by
    show uK n s l (m+1) ((l.length:Nat):Int)=_
    rw[abQ,nX];rfl) (show l.length<n by omega)
 have Tz:uK n s l n (0:Int)=_:=this
 rw[amx,Pred.sw,amO hn hp,hl]
 show (bif decide (((l.length:Nat):Int)> (64:Int)) then some ((2:Int)) else _)=_
 by_cases c:l.length>64
 ·rw[if_pos c,decide_eq_true (by omega)];rfl
 ·rw[if_neg c,decide_eq_false (by omega),cond_false,Tz,ab7,ab8]
  cases l.findSome? (sW s)<;>rfl
end Sh
end
section
open Go Go.Proofs Aq
namespace Sh
def ab9 (l:List Event) (n:Nat):Prop:=l.length<n∧l.length<2^62∧∀x∈l,x.aM.length<n∧x.aM.length<2^62
theorem amQ {n:Nat} {l:List Event} {k:Int} (h:ab9 l n):∃b:Bool,vR n (l,k)=some b:=by
 obtain⟨h1,h2,h3⟩:=h
 obtain⟨r,hr⟩:=sV (L:=fun m (_:Unit) i=>qY n l k m i) (l:=l)
  (fun m i x _ hx ih=>by
    have hlt:=jr hx
    obtain⟨a1,a2⟩:=h3 x (List.mem_of_getElem? hx)
    show∃r,qY n l k (m+1) (i:Int)=some r
    rw[NU,fq hx,dZ hx,dF (by omega)]
    refine iV ?_ ⟨_,rfl⟩
    rw[Option.bind_some,Option.bind_some]
    obtain⟨b,hb⟩:=amB (n:=n) (e:=⟨0,0,0,0,0,0,0,x.Vec,x.aM⟩) a1 a2
    rw[hb]
    show∃r,(bif !b then _ else _)=some r
    exact iV ⟨_,rfl⟩ (ih ()))
  (fun m _ i hi=>by
    show∃r,qY n l k (m+1) (i:Int)=some r
    rw[NU,iU hi];exact⟨_,rfl⟩) l.length 0 n () (by omega) h1
 have hr':qY n l k n (0:Int)=some r:=hr
 rw[aaV,hr',Option.bind_some]
 cases r with
 |inl q=>exact⟨_,rfl⟩
 |inr q=>exact⟨q,rfl⟩
end Sh
end
section
open Go Go.Proofs Aq
namespace Sh
theorem amR {n:Nat} {b:Book} {d:Int} (h:b.Rows.length<n) (hb:b.Rows.length<2^62):∃r:Bool,Bz n (b,d)=some r:=by
 have:=wI (L:=fun m i=>Jb n b d m i) (l:=b.Rows) (fun x i r=>bif x.Entry.ID==d then some (.inr true) else r) (some (.inl ()))
  (fun m i x hx=>by
    have hlt:=jr hx
    rw[aa4,fq hx,dZ hx,dF (by omega)];rfl)
  (fun m=>by rw[aa4,nX];rfl) h
 rw[alj,this,En (fun x:Row=>x.Entry.ID==d) (fun i=>(Sum.inr true:PUnit⊕Bool)) (.inl ())]
 cases b.Rows.findIdx? (fun x:Row=>x.Entry.ID==d)<;>exact⟨_,rfl⟩
theorem amS {n:Nat} {l:List Int} (h:l.length<n) (hb:l.length<2^62):∃r:Bool,BD n l=some r:=by
 obtain⟨r,hr⟩:=sV (L:=fun m (_:Unit) i=>wE n l m i) (l:=l)
  (fun m i x _ hx ih=>by
    have hlt:=jr hx
    show∃r,wE n l (m+1) (i:Int)=some r
    rw[aa5,fq hx,dZ hx,dF (by omega)]
    obtain⟨z,hz⟩:=JB (c:= !(decide (x< ((-1000:Int))))) (o:=some x) (d:=(0:Int)) (fun _=>⟨_,rfl⟩)
    simp only[cond_true,Option.bind_some,hz]
    exact iV ⟨_,rfl⟩ (ih ()))
  (fun m _ i hi=>by
    show∃r,wE n l (m+1) (i:Int)=some r
    rw[aa5,iU hi];exact⟨_,rfl⟩) l.length 0 n () (by omega) (by omega)
 have hr':wE n l n (0:Int)=some r:=hr
 rw[alk,hr',Option.bind_some]
 cases r<;>exact⟨_,rfl⟩
theorem amT {n:Nat} {d:Def} {a:Attr} (h:d.Words.length<n) (hb:d.Words.length<2^62):∃r:Int,uH n (d,a)=some r:=by
 rw[aln,abU h hb]
 exact iV ⟨_,rfl⟩ (iV (iV ⟨_,rfl⟩ (iV ⟨_,rfl⟩ ⟨_,rfl⟩)) (iV ⟨_,rfl⟩ (iV ⟨_,rfl⟩ ⟨_,rfl⟩)))
theorem amU {s:aD} {x:List UInt8} (h:¬findD s x<0):∃(i:Nat) (d:Def),findD s x=(i:Int)∧s.Defs[i]? =some d:=by
 unfold findD at h⊢
 cases hf:s.Defs.findIdx? (fun d=>d.Name==x) with
 |none=>rw[hf] at h;exact absurd (by decide) h
 |some i=>
  obtain⟨hi,_⟩:=List.findIdx?_eq_some_iff_getElem.mp hf
  exact⟨i,s.Defs[i],rfl,List.getElem?_eq_getElem hi⟩
theorem amV {n:Nat} {s:aD} {l:List Attr} (hs:mD s n) (h:l.length<n) (hb:l.length<2^62):∃r:Int,BK n (s,l)=some r:=by
 obtain⟨s1,s2,s3⟩:=hs
 obtain⟨r,hr⟩:=sV (L:=fun m (_:Unit) i=>qZ n s l m i) (l:=l)
  (fun m i x _ hx ih=>by
    have hlt:=jr hx
    have ih':∃r,qZ n s l m ((i+1:Nat):Int)=some r:=ih ()
    show∃r,qZ n s l (m+1) (i:Int)=some r
    rw[aa7,fq hx,dZ hx,dF (by omega)]
    simp only[cond_true,Option.bind_some]
    rw[abT s1 s2]
    show∃r,(bif decide (findD s x.Name<0) then some (Sum.inr (5:Int)) else _)=some r
    by_cases hf:findD s x.Name<0
    ·rw[decide_eq_true hf];exact⟨_,rfl⟩
    obtain⟨j,d,hj,hd⟩:=amU hf
    rw[decide_eq_false hf,hj,dZ hd]
    have hv:∃v:Int,uH n (d,x)=some v:=by
     obtain⟨_,_,w1,w2,_⟩:=s3 d (List.mem_of_getElem? hd)
     exact amT w1 w2
    obtain⟨v,hv⟩:=hv
    have tail:∃r,((uH n (d,x)).bind fun (dR:Int)=>bif dR !=(0:Int) then some (Sum.inr dR) else qZ n s l m ((i+1:Nat):Int))=some r:=by
     rw[hv];exact iV ⟨_,rfl⟩ ih'
    show∃r,(bif decide ((i:Int)>0) then _ else _)=some r
    cases i with
    |zero=>exact tail
    |succ k=>
     have hk:k<l.length:=by omega
     have hy:l[k]? =some l[k]:=List.getElem?_eq_getElem hk
     have hw:IntKind.wrap .i64 (((k+1:Nat):Int)-(1:Int))=((k:Nat):Int):=by
      rw[show (((k+1:Nat):Int)-(1:Int))=((k:Nat):Int) by omega]
      rw[IntKind.wrap_i64];omega
     rw[decide_eq_true (show ((k+1:Nat):Int)>0 by omega),hw,dZ hy]
     show∃r,(bif _ then some (Sum.inr (6:Int)) else _)=some r
     exact iV ⟨_,rfl⟩ tail)
  (fun m _ i hi=>by
    show∃r,qZ n s l (m+1) (i:Int)=some r
    rw[aa7,iU hi];exact⟨_,rfl⟩) l.length 0 n () (by omega) (by omega)
 have hr':qZ n s l n (0:Int)=some r:=hr
 rw[alo,hr',Option.bind_some]
 cases r<;>exact⟨_,rfl⟩
def lQ (v:List Int) (a:List Attr):Prop:=v.length≤40∧a.length≤20∧∀x∈a,x.Name.length≤300∧x.S.length≤300
def yY (e:Entry) (n:Nat):Prop:=e.Vec.length<n∧e.Vec.length<2^62∧e.aM.length<n∧e.aM.length<2^62∧lQ e.Vec e.aM
theorem acd {n:Nat} {s:aD} {e:Entry} (hs:mD s n) (h:yY e n):∃r:Int,yh n (s,e)=some r:=by
 obtain⟨h1,h2,h3,h4,_⟩:=h
 obtain⟨b,hb⟩:=amS h1 h2
 obtain⟨r,hr⟩:=amV hs h3 h4
 rw[alp,hb,hr]
 exact iV ⟨_,rfl⟩ (iV ⟨_,rfl⟩ (iV ⟨_,rfl⟩ ⟨_,rfl⟩))
theorem amW {n:Nat} {b:Book} {d:Int} (h:b.Rows.length<n) (hb:b.Rows.length<2^62):∃r:Int,BN n (b,d)=some r:=by
 obtain⟨r,hr⟩:=sV (L:=fun m (s:Int) i=>uI n b d m (s,i)) (l:=b.Rows)
  (fun m i x s hx ih=>by
    have hlt:=jr hx
    show∃r,uI n b d (m+1) (s,(i:Int))=some r
    rw[aa8,fq hx,dZ hx,dF (by omega)]
    simp only[cond_true,Option.bind_some]
    exact iV (ih _) (ih _))
  (fun m s i hi=>by
    show∃r,uI n b d (m+1) (s,(i:Int))=some r
    rw[aa8,iU hi];exact⟨_,rfl⟩) b.Rows.length 0 n 0 (by omega) (by omega)
 have hr':uI n b d n (0,0)=some r:=hr
 rw[alq,hr'];exact⟨_,rfl⟩
end Sh
end
section
open Go Go.Proofs Aq
namespace Sh
theorem bs {α β:Type} {o:Option α} {a:α} {f:α→Option β} {r:Option β} (h:o=some a) (k:f a=r):o.bind f=r:=by
 rw[h];exact k
mutual
theorem amX:∀p:Pred,(pre p).length=iT p
 | ⟨op,name,n,m,s,subs⟩=>by simp only[pre,iT,List.length_cons,ace subs]
theorem ace:∀l:List Pred,(jZ l).length=oQ l
 | []=>rfl
 |p::l=>by simp only[jZ,oQ,List.length_append,amX p,ace l]
end
end Sh
end
section
open Go Go.Proofs Aq
namespace Sh
theorem JG (a b:List UInt8):eB R .str a b=(a==b):=rfl
theorem acf (x y:List UInt8):∀m:List (List UInt8×Bool),iy (eB R Ty.str) y (jX (eB R Ty.str) x true m)=if y=x then some true else iy (eB R Ty.str) y m
 | []=>by
   show (bif eB R .str y x then some true else none)=_
   rw[JG]
   by_cases e:y=x
   ·rw[if_pos e,e];simp
   ·have h:(y==x)=false:=by simpa using e
    rw[if_neg e,h];rfl
 | (a,v)::m=>by
   have ih:=acf x y m
   show iy (eB R Ty.str) y (bif eB R .str x a then (x,true)::m else (a,v)::jX (eB R Ty.str) x true m)=if y=x then some true else (bif eB R .str y a then some v else iy (eB R Ty.str) y m)
   rw[JG,JG]
   by_cases h:x=a
   ·subst h
    rw[beq_self_eq_true,cond_true]
    show (bif eB R .str y x then some true else iy (eB R Ty.str) y m)=_
    rw[JG]
    by_cases e:y=x
    ·subst e;simp
    ·have h:(y==x)=false:=by simpa using e
     rw[if_neg e,h];rfl
   ·have hx:(x==a)=false:=by simpa using h
    rw[hx,cond_false]
    show (bif eB R .str y a then some v else iy (eB R Ty.str) y (jX (eB R Ty.str) x true m))=_
    rw[ih,JG]
    by_cases e:y=a
    ·subst e
     have:¬y=x:=fun e=>h e.symm
     simp[this]
    ·have h2:(y==a)=false:=by simpa using e
     rw[h2];rfl
def JH (m:List (List UInt8×Bool)) (met:List (List UInt8)):Prop:=∀y:List UInt8,mg false (iy (eB R Ty.str) y m)=met.contains y
theorem JH.nil:JH [] []:=fun _=>rfl
theorem JH.add {m:List (List UInt8×Bool)} {met:List (List UInt8)} (h:JH m met) (x:List UInt8):JH (jX (eB R Ty.str) x true m) (met++[x]):=fun y=>by
 have h1:mg false (iy (eB R Ty.str) y (jX (eB R Ty.str) x true m))=mg false (if y=x then some true else iy (eB R Ty.str) y m):=congrArg (mg false) (acf x y m)
 have h2:mg false (if y=x then some true else iy (eB R Ty.str) y m)=(met++[x]).contains y:=by
  by_cases e:y=x
  ·rw[if_pos e,e];simp[mg]
  ·have h3:=h y
   rw[if_neg e]
   refine h3.trans ?_
   simp[e]
 exact h1.trans h2
end Sh
end
section
open Go Go.Proofs Aq
namespace Sh
theorem NY {a k:Nat} (h:a<2^30) (hk:k≤2^12):bN a k=true:=by
 unfold bN
 have h1:a*k≤2^30*2^12:=Nat.mul_le_mul (Nat.le_of_lt h) hk
 have e:(2:Nat)^30*2^12≤2^47:=by decide
 rw[Bool.and_eq_true,decide_eq_true_iff,decide_eq_true_iff]
 exact⟨by omega,by omega⟩
theorem NZ {α:Type} {l:List α} {i:Nat} (h:i<l.length):decide (0≤(i:Int)∧(i:Int)< ((l.length:Nat):Int))=true:=decide_eq_true ⟨by omega,by omega⟩
theorem acg {α:Type} {c:Bool} {x d:α}:iG c (some x) d=some (bif c then x else d):=by cases c<;>rfl
def uL (id nY commit:Int) (r:Row):Row:=if r.Entry.ID=id∧r.Entry.From=nY∧r.cO=0∧r.Entry.fM<commit then ⟨r.Entry,commit⟩ else r
theorem set_mid {α:Type} (a:List α) (x y:α) (b:List α):kZ (a++x::b) (a.length:Int) y=a++y::b:=by
 unfold kZ
 rw[show ((a.length:Int)).toNat=a.length from rfl,List.set_append_right _ _ (Nat.le_refl _),Nat.sub_self];rfl
theorem amY {n:Nat} {rows:List Row} {id nY commit:Int} (h:rows.length<n) (hb:rows.length<2^30):yj n (rows,(id,(nY,commit)))=some (rows.map (uL id nY commit)):=by
 have key:∀(b a:List Row) (m:Nat),a.length+b.length=rows.length→b.length<m→Ea n id nY commit m ((a.length:Int),a++b)=some ((),a++b.map (uL id nY commit)):=by
  intro b
  induction b with
  |nil=>
   intro a m hl hm
   obtain⟨m,rfl⟩:∃m',m=m'+1:=⟨m-1,by simp at hm;omega⟩
   rw[aa9,List.append_nil,nX];simp
  |cons x b ih=>
   intro a m hl hm
   obtain⟨m,rfl⟩:∃m',m=m'+1:=⟨m-1,by simp at hm;omega⟩
   simp only[List.length_cons] at hl hm
   have hx:(a++x::b)[a.length]? =some x:=by simp
   have hin:=NZ (jr hx)
   have ih':=fun y=>ih (a++[y]) m (by simp;omega) (by omega)
   have e0:∀y,(((a++[y]).length:Nat):Int)=((a.length+1:Nat):Int):=fun y=>by simp
   rw[aa9,fq hx,cond_true,hin,cond_true]
   refine bs (dZ hx) ?_
   have imp:∀b:Bool,FP b true=true:=fun b=>by cases b<;>rfl
   have hw:∀(c:Bool) (d:Row),iG c (aL (a++x::b) ((a.length:Nat):Int)) d=some (bif c then x else d):=fun c d=>by rw[dZ hx];exact acg
   rw[imp,cond_true]
   refine bs (hw _ _) ?_
   rw[imp,cond_true]
   refine bs (hw _ _) ?_
   rw[imp,cond_true]
   refine bs (hw _ _) ?_
   have hset:kZ (a++x::b) ((a.length:Nat):Int) (⟨x.Entry,commit⟩:Row)=a++[(⟨x.Entry,commit⟩:Row)]++b:=by rw[set_mid];simp
   by_cases c1:x.Entry.ID=id
   ·have e1:(x.Entry.ID==id)=true:=by simpa using c1
    simp only[e1,cond_true]
    by_cases c2:x.Entry.From=nY
    ·have e2:(x.Entry.From==nY)=true:=by simpa using c2
     simp only[e2,cond_true]
     by_cases c3:x.cO=0
     ·have e3:(x.cO==(0:Int))=true:=by simpa using c3
      simp only[e3,cond_true]
      by_cases c4:x.Entry.fM<commit
      ·rw[decide_eq_true c4,cond_true]
       refine bs (dZ hx) ?_
       rw[dF (by omega),hset,←e0,ih']
       simp[uL,c1,c2,c3,c4]
      ·rw[decide_eq_false c4,cond_false,dF (by omega),show a++x::b=a++[x]++b by simp,←e0 x,ih']
       simp[uL,c1,c2,c3,c4]
     ·have e3:(x.cO==(0:Int))=false:=by simpa using c3
      simp only[e3,cond_false]
      rw[dF (by omega),show a++x::b=a++[x]++b by simp,←e0 x,ih']
      simp[uL,c3]
    ·have e2:(x.Entry.From==nY)=false:=by simpa using c2
     simp only[e2,cond_false]
     rw[dF (by omega),show a++x::b=a++[x]++b by simp,←e0 x,ih']
     simp[uL,c2]
   ·have e1:(x.Entry.ID==id)=false:=by simpa using c1
    simp only[e1,cond_false]
    rw[dF (by omega),show a++x::b=a++[x]++b by simp,←e0 x,ih']
    simp[uL,c1]
 rw[alr,NY hb (by omega),cond_true]
 exact bs (key rows [] n (by simp) h) rfl
theorem ach {i:Nat} (h:0<i) (hb:i<2^62):IntKind.wrap .i64 ((i:Int)-(1:Int))=((i-1:Nat):Int):=by
 rw[IntKind.wrap_i64];omega
theorem aci {α:Type} {l:List α} {i:Int} {x y:α} (h:y∈kZ l i x):y∈l∨y=x:=by
 unfold kZ at h
 exact List.mem_or_eq_of_mem_set h
theorem TA {α:Type} (l:List α) (i:Int) (x:α):(kZ l i x).length=l.length:=by unfold kZ;simp
theorem amZ {n:Nat} {b:Book} {id i:Int} {x:Row} (hx:aL b.Rows i=some x):∀(k m:Nat) (out:List Row),k<out.length→k<m→k<2^62→(∀r∈out,r∈b.Rows)→
 ∃(k':Nat) (out':List Row),Jg n b id i m ((k:Int),out)=some ((k':Int),out')∧k'<out'.length∧out'.length=out.length∧∀r∈out',r∈b.Rows:=by
 intro k
 induction k with
 |zero=>
  intro m out hk hm hb ho
  obtain⟨m,rfl⟩:∃m',m=m'+1:=⟨m-1,by omega⟩
  exact⟨0,out,by rw[abh];rfl,hk,rfl,ho⟩
 |succ k ih=>
  intro m out hk hm hb ho
  obtain⟨m,rfl⟩:∃m',m=m'+1:=⟨m-1,by omega⟩
  have hk1:k<out.length:=by omega
  have hy:aL out ((k:Nat):Int)=some out[k]:=by rw[qd,List.getElem?_eq_getElem hk1]
  have hz:aL out (((k+1:Nat)):Int)=some out[k+1]:=by rw[qd,List.getElem?_eq_getElem hk]
  have hym:out[k]∈out:=List.getElem_mem hk1
  generalize out[k]=y at hy hym
  generalize out[k+1]=z at hz
  have hw:IntKind.wrap .i64 (((k+1:Nat):Int)-(1:Int))=((k:Nat):Int):=by rw[ach (by omega) hb];rfl
  rw[abh,decide_eq_true (by omega),cond_true,hw,NZ hk1,cond_true]
  by_cases c:y.Entry.From>x.Entry.From
  ·obtain⟨k',out',h1,h2,h3,h4⟩:=ih m (kZ out ((k+1:Nat):Int) y) (by rw[TA];exact hk1) (by omega) (by omega) (fun r hr=>by
    rcases aci hr with h|h
    ·exact ho r h
    ·rw[h];exact ho y hym)
   refine⟨k',out', ?_,h2,by rw[h3,TA],h4⟩
   refine bs hy (bs hx ?_)
   rw[decide_eq_true c,cond_true]
   refine bs hy ?_
   rw[NZ hk,cond_true]
   exact bs hz h1
  ·refine⟨k+1,out, ?_,hk,rfl,ho⟩
   refine bs hy (bs hx ?_)
   rw[decide_eq_false c,cond_false]
theorem am0 {n:Nat} {b:Book} {id:Int} (h:b.Rows.length<n) (hb:b.Rows.length<2^29):∃l:List Row,sD n (b,id)=some l∧l.length≤b.Rows.length∧∀r∈l,r∈b.Rows:=by
 have key:∀(k i m:Nat) (out:List Row),i+k=b.Rows.length→k<m→out.length≤i→(∀r∈out,r∈b.Rows)→∃q:PUnit×List Row,yN n b id m (((),(i:Int)),out)=some q∧q.2.length≤b.Rows.length∧∀r∈q.2,r∈b.Rows:=by
  intro k
  induction k with
  |zero=>
   intro i m out hi hm ho hr
   obtain⟨m,rfl⟩:∃m',m=m'+1:=⟨m-1,by omega⟩
   exact⟨((),out),by rw[abj,decide_eq_false (by omega)];rfl,by show out.length≤_;omega,hr⟩
  |succ k ih=>
   intro i m out hi hm ho hr
   obtain⟨m,rfl⟩:∃m',m=m'+1:=⟨m-1,by omega⟩
   have hlt:i<b.Rows.length:=by omega
   have hx:aL b.Rows (i:Int)=some b.Rows[i]:=by rw[qd,List.getElem?_eq_getElem hlt]
   have hxm:b.Rows[i]∈b.Rows:=List.getElem_mem hlt
   generalize b.Rows[i]=x at hx hxm
   have hw:∀(c:Bool) (d:Row),iG c (aL b.Rows ((i:Nat):Int)) d=some (bif c then x else d):=fun c d=>by rw[hx];exact acg
   have next:∀out':List Row,out'.length≤i+1→(∀r∈out',r∈b.Rows)→∃q:PUnit×List Row,yN n b id m (((),IntKind.wrap .i64 ((i:Int)+(1:Int))),out')=some q∧q.2.length≤b.Rows.length∧∀r∈q.2,r∈b.Rows:=fun out' h1 h2=>by
    rw[dF (by omega)];exact ih (i+1) m out' (by omega) (by omega) h1 h2
   rw[abj,decide_eq_true (by omega),cond_true]
   refine aW ⟨x,hx, ?_⟩
   refine aW ⟨_,hw _ _, ?_⟩
   refine eP (fun _=> ?_) (fun _=>next out (by omega) hr)
   refine aW ⟨x,hx, ?_⟩
   rw[NY (show out.length+[x].length<2^30 by simp;omega) (by omega),cond_true]
   obtain⟨k',out',h1,h2,h3,h4⟩:=amZ (n:=n) (b:=b) (id:=id) hx out.length n (out++[x]) (by simp) (by omega) (by omega) (fun r hr'=>by
    rcases List.mem_append.1 hr' with h|h
    ·exact hr r h
    ·simp at h;rw[h];exact hxm)
   refine aW ⟨_,h1, ?_⟩
   refine aW ⟨x,hx, ?_⟩
   dsimp only
   rw[NZ h2,cond_true]
   refine aW ⟨out'[k'],by rw[qd,List.getElem?_eq_getElem h2], ?_⟩
   refine next _ (by rw[TA,h3];simp;omega) (fun r hr'=> ?_)
   rcases aci hr' with h|h
   ·exact h4 r h
   ·rw[h];exact hxm
 obtain⟨l,h1,h2,h3⟩:=key b.Rows.length 0 n [] (by omega) h (by simp) (by simp)
 exact⟨l.2,by rw[als];exact bs h1 rfl,h2,h3⟩
end Sh
end
section
open Go Go.Proofs Aq
namespace Sh
def j4 (n:Nat) (c:Int) (r:Row):Prop:=(r.cO=0∨(1≤r.cO∧r.cO≤c))∧yY r.Entry n
structure BI (n:Nat) (s:aD) (b:Book):Prop where
 schema:b.aD=s
 commit:b.aH=((b.bV.length:Nat):Int)
 days:b.bV.length≤2^30
 rows:b.Rows.length≤65536
 row:∀r∈b.Rows,j4 n b.aH r
theorem j4.le {n:Nat} {c c':Int} {r:Row} (h:j4 n c r) (hc:c≤c'):j4 n c' r:=⟨h.1.imp id fun ⟨a,b⟩=>⟨a,by omega⟩,h.2⟩
def N7 (e:Event) (n:Nat):Prop:=e.Vec.length<n∧e.Vec.length<2^62∧e.aM.length<n∧e.aM.length<2^62
def JI (e:Event) (n:Nat):Prop:=e.Vec.length<n∧e.Vec.length<2^62∧e.aM.length<n∧e.aM.length<2^62∧lQ e.Vec e.aM
theorem acj {n:Nat} {c:Int} {l:List Row} (h:∀r∈l,j4 n c r) (id nY:Int) (hc:1≤c):∀r∈l.map (uL id nY c),j4 n c r:=by
 intro r hr
 obtain⟨x,hx,rfl⟩:=List.mem_map.1 hr
 unfold uL
 split
 ·exact⟨.inr ⟨hc,Int.le_refl _⟩,(h x hx).2⟩
 ·exact h x hx
theorem sZ {α:Type} {l:List α} {i:Nat} (h:i<l.length):∃x,aL l (i:Int)=some x∧x∈l:=⟨l[i],by rw[qd,List.getElem?_eq_getElem h],List.getElem_mem h⟩
theorem N8 {a b:Nat} (h:a+b<2^62):IntKind.wrap .i64 ((((a:Nat):Int))+(((b:Nat):Int)))=((a+b:Nat):Int):=by
 rw[IntKind.wrap_i64];omega
theorem Ep {α:Type} {P:α→Prop} {a k:Nat} {o:Option α} (ho:∃r,o=some r∧P r) (h:a<2^31) (hk:k≤2^12:=by omega):∃r,(bif bN a k then o else none)=some r∧P r:=by
 have:bN a k=true:=by
  unfold bN
  have h1:a*k≤2^31*2^12:=Nat.mul_le_mul (Nat.le_of_lt h) hk
  have e:(2:Nat)^31*2^12≤2^47:=by decide
  rw[Bool.and_eq_true,decide_eq_true_iff,decide_eq_true_iff]
  exact⟨by omega,by omega⟩
 rw[this];exact ho
theorem N9 {α:Type} {a k:Nat} {o:Option α} (h:a<2^30) (hk:k≤2^12:=by omega):(bif bN a k then o else none)=o:=by
 rw[NY h hk];rfl
def BP (n:Nat) (s:aD) (r:aY):Prop:=BI n s r.B
theorem am1 {n:Nat} {b:Book} {e:Event} {l:List Row} {to:List bT} {more:Entry} (hn:2^20<n) (hl:l.length≤65536) (hlt:to.length=l.length) (hlr:∀r∈l,yY r.Entry n) (hc:1≤e.aH):
 ∀(k i m:Nat) (ver:Int) (rows added:List Row),i+k=l.length→k<m→rows.length≤65536→(∀r∈rows,j4 n e.aH r)→added.length≤i→(∀r∈added,j4 n e.aH r)→
 ∃q:Int×(List Row)×List Row,qc n b e l to more m (ver,(rows,(added,(i:Int))))=some q∧q.2.1.length=rows.length∧(∀r∈q.2.1,j4 n e.aH r)∧q.2.2.length≤l.length∧∀r∈q.2.2,j4 n e.aH r:=by
 intro k
 induction k with
 |zero=>
  intro i m ver rows added hi hm h1 h2 h3 h4
  obtain⟨m,rfl⟩:∃m',m=m'+1:=⟨m-1,by omega⟩
  exact⟨_,by rw[abb,decide_eq_false (by omega)];rfl,rfl,h2,by show added.length≤_;omega,h4⟩
 |succ k ih=>
  intro i m ver rows added hi hm h1 h2 h3 h4
  obtain⟨m,rfl⟩:∃m',m=m'+1:=⟨m-1,by omega⟩
  obtain⟨x,hx,hxm⟩:=sZ (l:=l) (i:=i) (by omega)
  obtain⟨d,hd,_⟩:=sZ (l:=to) (i:=i) (by omega)
  have acn:=fun nY=>amY (n:=n) (rows:=rows) (id:=e.ID) (nY:=nY) (commit:=e.aH) (by omega) (by omega)
  have nx:∀(ver:Int) (rows' oU:List Row),rows'.length=rows.length→(∀r∈rows',j4 n e.aH r)→oU.length≤i+1→(∀r∈oU,j4 n e.aH r)→
   ∃q:Int×(List Row)×List Row,qc n b e l to more m (ver,(rows',(oU,IntKind.wrap .i64 ((i:Int)+(1:Int)))))=some q∧q.2.1.length=rows.length∧(∀r∈q.2.1,j4 n e.aH r)∧q.2.2.length≤l.length∧∀r∈q.2.2,j4 n e.aH r:=fun ver rows' oU k1 k2 k3 k4=>by
   rw[dF (by omega)]
   have:=ih (i+1) m ver rows' oU (by omega) (by omega) (by omega) k2 k3 k4
   rw[k1] at this;exact this
  have hadd:∀(y:Row),j4 n e.aH y→∀r∈added++[y],j4 n e.aH r:=fun y hy r hr=>by
   rcases List.mem_append.1 hr with h|h
   ·exact h4 r h
   ·simp at h;rw[h];exact hy
  have grow:∀(c:Bool) (rows':List Row) (ver Oa f t:Int),rows'.length=rows.length→(∀r∈rows',j4 n e.aH r)→∃q:Int×(List Row)×List Row,(bif c then
        (aL to (i:Int)).bind fun (ru:bT)=>
        (aL to (i:Int)).bind fun (Jd:bT)=>
        bif bN (added.length+([(⟨(⟨x.Entry.ID,Oa,x.Entry.eU,x.Entry.gQ,ru.from_,Jd.to,e.aH,x.Entry.Vec,x.Entry.aM⟩:Entry),(0:Int)⟩:Row)].length)) 112 then
         qc n b e l to more m ((Oa,(rows',(added++[(⟨(⟨x.Entry.ID,Oa,x.Entry.eU,x.Entry.gQ,ru.from_,Jd.to,e.aH,x.Entry.Vec,x.Entry.aM⟩:Entry),(0:Int)⟩:Row)],Go.IntKind.wrap Go.IntKind.i64 ((i:Int)+((1:Int)))))))
        else
         none
   else
    qc n b e l to more m ((ver,(rows',(added,Go.IntKind.wrap Go.IntKind.i64 ((i:Int)+((1:Int))))))))=some q∧q.2.1.length=rows.length∧(∀r∈q.2.1,j4 n e.aH r)∧q.2.2.length≤l.length∧∀r∈q.2.2,j4 n e.aH r:=by
   intro c rows' ver Oa f t k1 k2
   refine eP (fun _=> ?_) (fun _=>nx _ _ _ k1 k2 (by omega) h4)
   refine aW ⟨d,hd, ?_⟩
   refine aW ⟨d,hd, ?_⟩
   refine Ep (nx _ _ _ k1 k2 (by simp;omega) (hadd _ ⟨.inl rfl,hlr x hxm⟩)) (by simp;omega)
  rw[abb,decide_eq_true (by omega),cond_true]
  refine aW ⟨x,hx, ?_⟩
  refine aW ⟨d,hd, ?_⟩
  refine eP (fun _=> ?_) (fun _=> ?_)
  ·refine aW ⟨d,hd, ?_⟩
   refine eP (fun _=>nx _ _ _ rfl h2 (by omega) h4) (fun _=> ?_)
   refine aW ⟨_,acn _, ?_⟩
   refine aW ⟨d,hd, ?_⟩
   refine aW ⟨d,hd, ?_⟩
   exact grow _ _ _ _ 0 0 (by simp) (acj h2 _ _ hc)
  ·refine aW ⟨_,acn _, ?_⟩
   refine aW ⟨d,hd, ?_⟩
   refine aW ⟨d,hd, ?_⟩
   exact grow _ _ _ _ 0 0 (by simp) (acj h2 _ _ hc)
theorem JJ {n:Nat} {s:aD} {b:Book} {e:Event} {l:List Row} {to:List bT} {more:Entry} (hn:2^20<n) (hs:mD s n) (hb:BI n s b) (hl:l.length≤65536) (hlt:to.length=l.length) (hlr:∀r∈l,yY r.Entry n)
 (hm:yY more n) (hc:e.aH=b.aH+1) (hc2:e.aH≤2^30):∃r:aY,qJ n (b,(e,(l,(to,more))))=some r∧BP n s r:=by
 have hcl:=hb.commit
 have TB:=hb.rows
 have hdl:b.bV.length<2^30:=by omega
 have hc1:1≤e.aH:=by omega
 obtain⟨v,hv⟩:=amW (n:=n) (b:=b) (d:=e.ID) (by omega) (by omega)
 obtain⟨⟨ver,rows,added⟩,h1,h2,h3,h4,h5⟩:=am1 (b:=b) (more:=more) hn hl hlt hlr hc1 l.length 0 n v b.Rows [] (by omega) (by omega) TB (fun r hr=>(hb.row r hr).le (by omega)) (by simp) (by simp)
 dsimp only at h2 h3 h4 h5
 have fin:∀oU:List Row,oU.length≤65537→(∀r∈oU,j4 n e.aH r)→∃r:aY,(bif decide ((Go.IntKind.wrap Go.IntKind.i64 ((((rows.length:Nat):Int))+(((oU.length:Nat):Int))))> ((65536:Int))) then
       some ((⟨b,(2:Int)⟩:aY))
  else
   bif bN (((0:Nat))+b.bV.length) 8 then
    bif bN ((([]++b.bV).length)+([e.Day].length)) 8 then
     bif bN (((0:Nat))+rows.length) 112 then
      bif bN ((([]++rows).length)+oU.length) 112 then
       some ((⟨(⟨b.aD,e.aH,e.Day,([]++b.bV)++[e.Day],([]++rows)++oU⟩:Book),(0:Int)⟩:aY))
      else
       none
     else
      none
    else
     none
   else
    none)=some r∧BP n s r:=by
  intro oU k1 k2
  rw[N8 (by omega)]
  refine eP (fun _=>bZ (show BI n s b from hb)) (fun hx=> ?_)
  have hx':rows.length+oU.length≤65536:=by
   have:=of_decide_eq_false hx;omega
  refine Ep (Ep (Ep (Ep ?_ (by simp;omega)) (by simp;omega)) (by simp;omega)) (by simp;omega)
  refine bZ ?_
  show BI n s _
  exact⟨hb.schema,by simp;omega,by simp;omega,by simp;omega,fun r hr=>by
   simp only[List.nil_append,List.mem_append] at hr
   rcases hr with h|h
   ·exact h3 r h
   ·exact k2 r h⟩
 rw[abe]
 refine aW ⟨v,hv, ?_⟩
 refine aW ⟨_,h1, ?_⟩
 dsimp only
 refine eP (fun _=> ?_) (fun _=>fin added (by omega) h5)
 obtain⟨er,her⟩:=acd (n:=n) (s:=s) (e:=⟨more.ID,Go.IntKind.wrap Go.IntKind.i64 (ver+((1:Int))),more.eU,more.gQ,more.From,more.To,more.fM,more.Vec,more.aM⟩) hs hm
 rw[hb.schema]
 refine aW ⟨er,her, ?_⟩
 refine eP (fun _=>bZ (show BI n s b from hb)) (fun _=> ?_)
 refine Ep ?_ (by simp;omega)
 have:=fin (added++[(⟨(⟨more.ID,Go.IntKind.wrap Go.IntKind.i64 (ver+((1:Int))),more.eU,more.gQ,more.From,more.To,more.fM,more.Vec,more.aM⟩:Entry),(0:Int)⟩:Row)]) (by simp;omega) (fun r hr=>by
  rcases List.mem_append.1 hr with h|h
  ·exact h5 r h
  ·simp at h;rw[h];exact⟨.inl rfl,hm⟩)
 rw[hb.schema] at this
 exact this
theorem am2 {n:Nat} {s:aD} {b:Book} {e:Event} (hn:2^20<n) (hs:mD s n) (hb:BI n s b) (he:JI e n) (hc:e.aH=b.aH+1) (hc2:e.aH≤2^30):∃r:aY,yt n (b,e)=some r∧BP n s r:=by
 have hr:=hb.rows
 obtain⟨h,hh⟩:=amR (n:=n) (b:=b) (d:=e.ID) (by omega) (by omega)
 rw[abg]
 refine aW ⟨h,hh, ?_⟩
 refine eP (fun _=>bZ (show BI n s b from hb)) (fun _=> ?_)
 obtain⟨er,her⟩:=acd (n:=n) (s:=s) (e:=⟨e.ID,(1:Int),e.eU,e.Day,e.Until,(1048577:Int),e.aH,e.Vec,e.aM⟩) hs he
 rw[hb.schema]
 refine aW ⟨er,her, ?_⟩
 refine eP (fun _=>bZ (show BI n s b from hb)) (fun _=> ?_)
 obtain⟨r,h1,h2⟩:=JJ (l:=[]) (to:=[]) (more:=⟨e.ID,(1:Int),e.eU,e.Day,e.Until,(1048577:Int),e.aH,e.Vec,e.aM⟩) hn hs hb (by simp) rfl (by simp) he hc hc2
 exact aW ⟨r,h1,bZ h2⟩
theorem TD {n:Nat} {l:List Row} (h:l≠[]) (hb:l.length<2^62):∃x:Int,sF n l=some x:=by
 have hp:0<l.length:=List.length_pos_iff.2 h
 obtain⟨x,hx,_⟩:=sZ (l:=l) (i:=l.length-1) (by omega)
 exact⟨x.Entry.To,by rw[alu,ach hp hb];exact bs hx rfl⟩
theorem TF {L:Nat→List bT→Int→Option (List bT)} {l:List Row} (hl:l.length≤65536) (hs:∀m (i:Nat) (acc:List bT),i<l.length→acc.length=i→∃d,L (m+1) acc (i:Int)=L m (acc++[d]) ((i+1:Nat):Int)) (hf:∀m acc,L (m+1) acc ((l.length:Nat):Int)=some acc) {n:Nat} (hn:l.length<n):∃to:List bT,L n [] (0:Int)=some to∧to.length=l.length:=by
 have key:∀(k i m:Nat) (acc:List bT),i+k=l.length→k<m→acc.length=i→∃to:List bT,L m acc (i:Int)=some to∧to.length=l.length:=by
  intro k
  induction k with
  |zero=>
   intro i m acc hi hm ha
   obtain⟨m,rfl⟩:∃m',m=m'+1:=⟨m-1,by omega⟩
   obtain rfl:i=l.length:=by omega
   exact⟨acc,hf _ _,ha⟩
  |succ k ih=>
   intro i m acc hi hm ha
   obtain⟨m,rfl⟩:∃m',m=m'+1:=⟨m-1,by omega⟩
   obtain⟨d,hd⟩:=hs m i acc (by omega) ha
   rw[hd]
   exact ih (i+1) m _ (by omega) (by omega) (by simp[ha])
 exact key l.length 0 n [] (by omega) hn rfl
theorem TG {n:Nat} {s:aD} {b:Book} {l:List Row} (hb:BI n s b) (hl:∀r∈l,r∈b.Rows):∀r∈l,yY r.Entry n:=fun r hr=>(hb.row r (hl r hr)).2
theorem am3 {n:Nat} {s:aD} {b:Book} {e:Event} {l:List Row} (hn:2^20<n) (hs:mD s n) (hb:BI n s b) (he:JI e n) (hc:e.aH=b.aH+1) (hc2:e.aH≤2^30) (hne:l≠[]) (hl:l.length≤65536) (hlr:∀r∈l,r∈b.Rows):∃r:aY,qK n (b,(e,l))=some r∧BP n s r:=by
 have hp:0<l.length:=List.length_pos_iff.2 hne
 obtain⟨x,hx,hxm⟩:=sZ (l:=l) (i:=0) hp
 obtain⟨t,ht⟩:=TD (n:=n) hne (by omega)
 obtain⟨t',ht'⟩:=JB (c:= !(decide (e.From< ((0:Int))))) (o:=sF n l) (d:=(0:Int)) (fun _=>⟨t,ht⟩)
 obtain⟨to,h1,h2⟩:=TF (L:=fun m acc i=>yO n b e l x m (acc,i)) (n:=n) hl (fun m i acc hi ha=>by
  obtain⟨y,hy,_⟩:=sZ (l:=l) (i:=i) hi
  refine⟨⟨y.Entry.From,jF y.Entry.To (imax (imax e.From x.Entry.From) y.Entry.From)⟩, ?_⟩
  show yO n b e l x (m+1) (acc,(i:Int))=_
  rw[abk,decide_eq_true (by omega),cond_true]
  refine bs hy ?_
  rw[dF (by omega)];exact N9 (by simp;omega))
  (fun m acc=>by
    show yO n b e l x (m+1) (acc,((l.length:Nat):Int))=_
    rw[abk,nX];rfl) (by omega)
 obtain⟨r,h3,h4⟩:=JJ (l:=l) (to:=to) (more:=⟨x.Entry.ID,x.Entry.eG,x.Entry.eU,x.Entry.gQ,imax e.From x.Entry.From,t,e.aH,e.Vec,e.aM⟩) hn hs hb hl h2 (TG hb hlr) he hc hc2
 rw[abl]
 refine aW ⟨x,hx, ?_⟩
 refine aW ⟨t',ht', ?_⟩
 refine eP (fun _=>bZ (show BI n s b from hb)) (fun _=> ?_)
 refine aW ⟨to,h1, ?_⟩
 refine aW ⟨x,hx, ?_⟩
 refine aW ⟨t,ht, ?_⟩
 exact aW ⟨r,h3,bZ h4⟩
theorem TH {n:Nat} (hn:2^20<n):yY (⟨(0:Int),(0:Int),(0:Int),(0:Int),(0:Int),(0:Int),(0:Int),[],[]⟩:Entry) n:=⟨by simp;omega,by simp,by simp;omega,by simp,by simp,by simp,fun x hx=>absurd hx List.not_mem_nil⟩
theorem am4 {n:Nat} {s:aD} {b:Book} {e:Event} {l:List Row} (hn:2^20<n) (hs:mD s n) (hb:BI n s b) (hc:e.aH=b.aH+1) (hc2:e.aH≤2^30) (hne:l≠[]) (hl:l.length≤65536) (hlr:∀r∈l,r∈b.Rows):∃r:aY,qL n (b,(e,l))=some r∧BP n s r:=by
 obtain⟨t,ht⟩:=TD (n:=n) hne (by omega)
 obtain⟨to,h1,h2⟩:=TF (L:=fun m acc i=>yP n b e l m (acc,i)) (n:=n) hl (fun m i acc hi ha=>by
  obtain⟨y,hy,_⟩:=sZ (l:=l) (i:=i) hi
  refine⟨⟨y.Entry.From,jF y.Entry.To (imax e.From y.Entry.From)⟩, ?_⟩
  show yP n b e l (m+1) (acc,(i:Int))=_
  rw[abm,decide_eq_true (by omega),cond_true]
  refine bs hy ?_
  rw[dF (by omega)];exact N9 (by simp;omega))
  (fun m acc=>by
    show yP n b e l (m+1) (acc,((l.length:Nat):Int))=_
    rw[abm,nX];rfl) (by omega)
 obtain⟨r,h3,h4⟩:=JJ (l:=l) (to:=to) hn hs hb hl h2 (TG hb hlr) (TH hn) hc hc2
 rw[abn]
 refine eP (fun _=> ?_) (fun _=>bZ (show BI n s b from hb))
 refine aW ⟨t,ht, ?_⟩
 refine eP (fun _=>bZ (show BI n s b from hb)) (fun _=> ?_)
 refine aW ⟨to,h1, ?_⟩
 exact aW ⟨r,h3,bZ h4⟩
theorem am5 {n:Nat} {s:aD} {b:Book} {e:Event} {l:List Row} (hn:2^20<n) (hs:mD s n) (hb:BI n s b) (hc:e.aH=b.aH+1) (hc2:e.aH≤2^30) (hne:l≠[]) (hl:l.length≤65536) (hlr:∀r∈l,r∈b.Rows):∃r:aY,qM n (b,(e,l))=some r∧BP n s r:=by
 have hp:0<l.length:=List.length_pos_iff.2 hne
 obtain⟨x,hx,hxm⟩:=sZ (l:=l) (i:=0) hp
 obtain⟨t,ht⟩:=TD (n:=n) hne (by omega)
 obtain⟨to,h1,h2⟩:=TF (L:=fun m acc i=>wF n b e l x m (acc,i)) (n:=n) hl (fun m i acc hi ha=>by
  obtain⟨y,hy,_⟩:=sZ (l:=l) (i:=i) hi
  refine⟨bif bif (i:Int)==((0:Int)) then decide (e.Until<x.Entry.From) else false then ⟨e.Until,y.Entry.To⟩ else ⟨imax y.Entry.From (jF e.Until y.Entry.To),y.Entry.To⟩, ?_⟩
  show wF n b e l x (m+1) (acc,(i:Int))=_
  rw[abo,decide_eq_true (by omega),cond_true]
  refine bs hy ?_
  cases (bif (i:Int)==((0:Int)) then decide (e.Until<x.Entry.From) else false)
  ·rw[cond_false,cond_false,dF (by omega)];exact N9 (by simp;omega)
  ·rw[cond_true,cond_true,dF (by omega)];exact N9 (by simp;omega))
  (fun m acc=>by
    show wF n b e l x (m+1) (acc,((l.length:Nat):Int))=_
    rw[abo,nX];rfl) (by omega)
 obtain⟨r,h3,h4⟩:=JJ (l:=l) (to:=to) hn hs hb hl h2 (TG hb hlr) (TH hn) hc hc2
 rw[abp]
 refine aW ⟨x,hx, ?_⟩
 refine eP (fun _=>bZ (show BI n s b from hb)) (fun _=> ?_)
 refine eP (fun _=> ?_) (fun _=>bZ (show BI n s b from hb))
 refine aW ⟨t,ht, ?_⟩
 refine eP (fun _=>bZ (show BI n s b from hb)) (fun _=> ?_)
 refine aW ⟨to,h1, ?_⟩
 exact aW ⟨r,h3,bZ h4⟩
theorem am6 {n:Nat} {s:aD} {b:Book} {e:Event} (hn:2^20<n) (hs:mD s n) (hb:BI n s b) (he:JI e n):∃r:aY,yw n (b,e)=some r∧BP n s r:=by
 have hcl:=hb.commit
 have TB:=hb.rows
 have hdl:=hb.days
 rw[abq]
 refine eP (fun _=>bZ (show BI n s b from hb)) (fun hcond=> ?_)
 have hw:IntKind.wrap .i64 (b.aH+(1:Int))=b.aH+1:=by rw[hcl,IntKind.wrap_i64];omega
 rw[hw] at hcond
 have hc:e.aH=b.aH+1:=by
  by_cases c:e.aH=b.aH+1
  ·exact c
  ·rw[bne_iff_ne.2 c] at hcond;simp at hcond
 have hc2:e.aH≤2^30:=by
  by_cases c:e.aH> (1073741824:Int)
  ·rw[decide_eq_true c] at hcond
   cases h:(e.aH !=b.aH+1)<;>rw[h] at hcond<;>simp at hcond
  ·omega
 obtain⟨l,hl1,hl2,hl3⟩:=am0 (n:=n) (b:=b) (id:=e.ID) (by omega) (by omega)
 have err:∀k:Int,∃r:aY,some ((⟨b,k⟩:aY))=some r∧BP n s r:=fun k=>bZ (show BI n s b from hb)
 have live:∃r:aY,((sD n ((b,e.ID))).bind fun (r5:List Row)=>
          bif (((r5.length:Nat):Int))==((0:Int)) then
           some ((⟨b,(5:Int)⟩:aY))
          else
           bif e.Kind==((2:Int)) then
            (qK n ((b,(e,r5)))).bind fun (r6:aY)=>
            some r6
           else
            bif e.Kind==((3:Int)) then
             (qL n ((b,(e,r5)))).bind fun (r7:aY)=>
             some r7
            else
             (qM n ((b,(e,r5)))).bind fun (r8:aY)=>
             some r8)=some r∧BP n s r:=by
  refine aW ⟨l,hl1, ?_⟩
  refine eP (fun _=>err 5) (fun hne=> ?_)
  have hne':l≠[]:=by rintro rfl;simp at hne
  have TI:l.length≤65536:=Nat.le_trans hl2 TB
  refine eP (fun _=> ?_) (fun _=>eP (fun _=> ?_) (fun _=> ?_))
  ·obtain⟨r,h1,h2⟩:=am3 hn hs hb he hc hc2 hne' TI hl3
   exact aW ⟨r,h1,bZ h2⟩
  ·obtain⟨r,h1,h2⟩:=am4 hn hs hb hc hc2 hne' TI hl3
   exact aW ⟨r,h1,bZ h2⟩
  ·obtain⟨r,h1,h2⟩:=am5 hn hs hb hc hc2 hne' TI hl3
   exact aW ⟨r,h1,bZ h2⟩
 refine eP (fun _=> ?_) (fun _=>eP (fun _=> ?_) (fun _=>eP (fun _=>live) (fun _=>eP (fun _=>live) (fun _=>eP (fun _=>live) (fun _=>err 1)))))
 ·obtain⟨r,h1,h2⟩:=am2 hn hs hb he hc hc2
  exact aW ⟨r,h1,bZ h2⟩
 ·obtain⟨r,h1,h2⟩:=JJ (l:=[]) (to:=[]) hn hs hb (by simp) rfl (by simp) (TH hn) hc hc2
  exact aW ⟨r,h1,bZ h2⟩
def aco:aD:=⟨0,0,[]⟩
def TJ (n:Nat) (s:aD) (r:dI):Prop:=BI n s r.B∨r.B=⟨aco,0,0,[],[]⟩
theorem am7 {n:Nat} {s:aD} {l:List Event} (hn:2^20<n) (hs:mD s n) (hl:l.length<n) (hb:l.length<2^62) (he:∀e∈l,JI e n):∃r:dI,yx n (s,l)=some r∧TJ n s r:=by
 obtain⟨e0,he0⟩:=ab4 hs (by omega)
 obtain⟨nw,hnw,am8⟩:∃b:aY,xZ n s=some b∧(b.E=0→BI n s b.B):=by
  rw[aa3]
  refine aW ⟨e0,he0, ?_⟩
  refine eP (fun h=>bZ fun h2=> ?_) (fun _=>bZ fun _=> ?_)
  ·have h3:e0=0:=h2
   rw[h3] at h;simp at h
  ·exact⟨rfl,rfl,by simp,by simp,by simp⟩
 have key:∀(k i m:Nat) (f:dI) (bk:aY),i+k=l.length→k<m→(bk.E=0→BI n s bk.B)→∃q:(PUnit×dI×aY)⊕(PUnit×dI),yQ n l m ((i:Int),(f,bk))=some q∧(match q with
  |.inl q=>q.2.2.E=0→BI n s q.2.2.B
  |.inr q=>TJ n s q.2):=by
  intro k
  induction k with
  |zero=>
   intro i m f bk hi hm hbk
   obtain⟨m,rfl⟩:∃m',m=m'+1:=⟨m-1,by omega⟩
   exact⟨.inl ((),(f,bk)),by rw[Tk,decide_eq_false (by omega)];rfl,hbk⟩
  |succ k ih=>
   intro i m f bk hi hm hbk
   obtain⟨m,rfl⟩:∃m',m=m'+1:=⟨m-1,by omega⟩
   obtain⟨x,hx,hxm⟩:=sZ (l:=l) (i:=i) (by omega)
   rw[Tk,decide_eq_true (by omega),cond_true]
   refine eP (fun hz=> ?_) (fun _=>bZ hbk)
   have hB:=hbk (by simpa using hz)
   obtain⟨r,h1,h2⟩:=am6 hn hs hB (he x hxm)
   refine aW ⟨x,hx, ?_⟩
   refine aW ⟨r,h1, ?_⟩
   refine eP (fun _=>bZ (.inl hB)) (fun _=> ?_)
   rw[dF (by omega)]
   exact ih (i+1) m f r (by omega) (by omega) fun _=>h2
 obtain⟨q,h1,h2⟩:=key l.length 0 n ⟨⟨aco,0,0,[],[]⟩,0,0⟩ nw (by omega) hl am8
 rw[abr]
 refine aW ⟨nw,hnw, ?_⟩
 refine aW ⟨q,h1, ?_⟩
 cases q with
 |inl q=>
  refine eP (fun _=>bZ (.inr rfl)) (fun hz=>bZ (.inl (h2 (by simpa using hz))))
 |inr q=>exact bZ h2
end Sh
end
section
open Go Go.Proofs Aq
namespace Sh
theorem acp (n:Nat):vT n (())=some true:=by unfold vT;rfl
theorem acr {n:Nat} {e:Entry} (hb:e.aM.length<2^62):∀(m i:Nat),wh n e m (i:Int)=some (.inl ())→∀j (hj:j<e.aM.length),i≤j→j≤20→e.aM[j].Name.length≤300∧e.aM[j].S.length≤300
 |0,i,h,_,_,_,_=>by rw[aaS] at h;cases h
 |m+1,i,h,j,hj,hij,h20=>by
  rw[Tj] at h
  have hi:i<e.aM.length:=by omega
  have e1:decide ((i:Int)< ((e.aM.length:Nat):Int))=true:=decide_eq_true (by omega)
  have e2:decide ((i:Int)≤(20:Int))=true:=decide_eq_true (by omega)
  have hx:e.aM[i]? =some e.aM[i]:=List.getElem?_eq_getElem hi
  rw[e1,e2,dZ hx,dF (by omega)] at h
  simp only[cond_true,Option.bind_some] at h
  cases hn:decide (((e.aM[i].Name.length:Nat):Int)> (300:Int)) with
  |true=>
   rw[hn] at h
   simp only[Bool.not_true,iG,cond_false,cond_true,Option.bind_some] at h
   cases h
  |false=>
   rw[hn] at h
   simp only[Bool.not_false,iG,cond_true,cond_false,Option.bind_some] at h
   cases hs:decide (((e.aM[i].S.length:Nat):Int)> (300:Int)) with
   |true=>rw[hs] at h;cases h
   |false=>
    rw[hs] at h
    have h1:=of_decide_eq_false hn
    have h2:=of_decide_eq_false hs
    by_cases hji:j=i
    ·subst hji;exact⟨by omega,by omega⟩
    ·exact acr hb m (i+1) h j hj (by omega) h20
theorem am9 {n:Nat} {e:Entry} (hb:e.aM.length<2^62) (h:xU n e=some true):lQ e.Vec e.aM:=by
 rw[aaT] at h
 obtain⟨r,hr,h⟩:=Option.bind_eq_some_iff.1 h
 cases r with
 |inr b=>
  have:∀(m i:Nat) b,i≤2^62→wh n e m (i:Int)=some (.inr b)→b=false:=by
   intro m
   induction m with
   |zero=>intro i b _ h;rw[aaS] at h;cases h
   |succ m ih=>
    intro i b hi h
    rw[Tj] at h
    cases hc:(bif decide ((i:Int)< ((e.aM.length:Nat):Int)) then decide ((i:Int)≤(20:Int)) else false) with
    |false=>rw[hc] at h;cases h
    |true=>
     rw[hc] at h
     have hlt:i<e.aM.length:=by
      cases hd:decide ((i:Int)< ((e.aM.length:Nat):Int)) with
      |false=>rw[hd] at hc;cases hc
      |true=>have:=of_decide_eq_true hd;omega
     rw[cond_true,dF (by omega)] at h
     obtain⟨x,_,h⟩:=Option.bind_eq_some_iff.1 h
     obtain⟨y,_,h⟩:=Option.bind_eq_some_iff.1 h
     revert h
     cases (bif decide (((x.Name.length:Nat):Int)> (300:Int)) then true else decide (((y.S.length:Nat):Int)> (300:Int))) with
     |true=>intro h;cases h;rfl
     |false=>intro h;exact ih (i+1) b (by omega) h
  have hb':=this n 0 b (by omega) hr
  subst hb'
  cases h
 |inl u=>
  have h':some (bif decide (((e.Vec.length:Nat):Int)≤(40:Int)) then decide (((e.aM.length:Nat):Int)≤(20:Int)) else false)=some true:=h
  cases hv:decide (((e.Vec.length:Nat):Int)≤(40:Int)) with
  |false=>rw[hv] at h';cases h'
  |true=>
   rw[hv] at h'
   have h1:=of_decide_eq_true hv
   have h2:=of_decide_eq_true (Option.some.inj h')
   refine⟨by omega,by omega,fun x hx=> ?_⟩
   obtain⟨j,hj,rfl⟩:=List.mem_iff_getElem.1 hx
   exact acr hb n 0 hr j hj (Nat.zero_le _) (by omega)
theorem acs {n:Nat} {l:List Event} {k:Int} (hb:l.length<2^62) (ha:∀e∈l,e.aM.length<2^62):∀(m i:Nat),qY n l k m (i:Int)=some (.inl ())→∀j (hj:j<l.length),i≤j→(j:Int)≤k→lQ l[j].Vec l[j].aM
 |0,i,h,_,_,_,_=>by rw[aaU] at h;cases h
 |m+1,i,h,j,hj,hij,hk=>by
  rw[NU] at h
  have hi:i<l.length:=by omega
  have e1:decide ((i:Int)< ((l.length:Nat):Int))=true:=decide_eq_true (by omega)
  have e2:decide ((i:Int)≤k)=true:=decide_eq_true (by omega)
  have hx:l[i]? =some l[i]:=List.getElem?_eq_getElem hi
  rw[e1,e2,dZ hx,dF (by omega)] at h
  simp only[cond_true,Option.bind_some] at h
  obtain⟨b,hf,h⟩:=Option.bind_eq_some_iff.1 h
  cases b with
  |false=>cases h
  |true=>
   by_cases hji:j=i
   ·subst hji;exact am9 (e:=⟨0,0,0,0,0,0,0,l[j].Vec,l[j].aM⟩) (ha _ (List.getElem_mem _)) hf
   ·exact acs hb ha m (i+1) h j hj (by omega) hk
theorem ana {n:Nat} {l:List Event} {k:Int} (hb:l.length<2^62) (ha:∀e∈l,e.aM.length<2^62) (h:vR n (l,k)=some true):∀e∈l,lQ e.Vec e.aM:=by
 rw[aaV] at h
 obtain⟨r,hr,h⟩:=Option.bind_eq_some_iff.1 h
 cases r with
 |inr b=>
  have:∀(m i:Nat) b,i≤2^62→qY n l k m (i:Int)=some (.inr b)→b=false:=by
   intro m
   induction m with
   |zero=>intro i b _ h;rw[aaU] at h;cases h
   |succ m ih=>
    intro i b hi h
    rw[NU] at h
    cases hc:(bif decide ((i:Int)< ((l.length:Nat):Int)) then decide ((i:Int)≤k) else false) with
    |false=>rw[hc] at h;cases h
    |true=>
     rw[hc] at h
     have hlt:i<l.length:=by
      cases hd:decide ((i:Int)< ((l.length:Nat):Int)) with
      |false=>rw[hd] at hc;cases hc
      |true=>have:=of_decide_eq_true hd;omega
     rw[cond_true,dF (by omega)] at h
     obtain⟨x,_,h⟩:=Option.bind_eq_some_iff.1 h
     obtain⟨y,_,h⟩:=Option.bind_eq_some_iff.1 h
     obtain⟨f,_,h⟩:=Option.bind_eq_some_iff.1 h
     revert h
     cases f with
     |false=>intro h;cases h;rfl
     |true=>intro h;exact ih (i+1) b (by omega) h
  have hb':=this n 0 b (by omega) hr
  subst hb'
  cases h
 |inl u=>
  have h':some (decide (((l.length:Nat):Int)≤k))=some true:=h
  have h2:=of_decide_eq_true (Option.some.inj h')
  intro x hx
  obtain⟨j,hj,rfl⟩:=List.mem_iff_getElem.1 hx
  exact acs hb ha n 0 hr j hj (Nat.zero_le _) (by omega)
theorem anb {n:Nat} {l:List Event} {k:Int} (hb:l.length<2^62) (he:∀e∈l,N7 e n) (h:vR n (l,k)=some true):∀e∈l,JI e n:=fun e hx=>
 ⟨(he e hx).1,(he e hx).2.1,(he e hx).2.2.1,(he e hx).2.2.2,ana hb (fun y hy=>(he y hy).2.2.2) h e hx⟩
end Sh
end
