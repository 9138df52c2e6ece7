/- Part of the proof of a law. -/
import Derived.Test.YtdcnajadcbedkaaGreatDoorS1223
set_option linter.all false
section
open Go Go.Proofs Aq
namespace Sh
def findD (s:ak) (x:List UInt8):Int:=match s.Defs.findIdx? (fun d=>d.Name==x) with
 |some i=>(i:Int)
 |none=> -1
theorem ao8 {n:Nat} {s:ak} {x:List UInt8} (h:s.Defs.length<n) (hb:s.Defs.length<2^62):Ed n (s,x)=some (findD s x):=by
 have:=Uk (L:=fun m i=>JC n s x m i) (l:=s.Defs) (fun d i r=>bif d.Name==x then some (.inr (i:Int)) else r) (some (.inl ()))
  (fun m i d hd=>by
    have hlt:=qj hd
    rw[acN,jM hd,fC hd,fE (by omega)];rfl)
  (fun m=>by rw[acN,Ab];rfl) h
 rw[an2,this,Na (fun d:Def=>d.Name==x) (fun i=>(Sum.inr (i:Int):PUnit⊕Int)) (.inl ())]
 unfold findD
 cases s.Defs.findIdx? (fun d=>d.Name==x) with
 |none=>rfl
 |some j=>simp;rfl
theorem adj {n:Nat} {l:List (List UInt8)} {x:List UInt8} (h:l.length<n) (hb:l.length<2^62):yI n (l,x)=some (l.any (· ==x)):=by
 have:=Uk (L:=fun m i=>JA n l x m i) (l:=l) (fun d i r=>bif d==x then some (.inr true) else r) (some (.inl ()))
  (fun m i d hd=>by
    have hlt:=qj hd
    rw[acG,jM hd,fC hd,fE (by omega)];rfl)
  (fun m=>by rw[acG,Ab];rfl) h
 rw[anT,this,Na (fun d:List UInt8=>d==x) (fun i=>(Sum.inr true:PUnit⊕Bool)) (.inl ())]
 cases hf:l.findIdx? (fun d=>d==x) with
 |none=>
  rw[List.findIdx?_eq_none_iff] at hf
  have:l.any (· ==x)=false:=by rw[List.any_eq_false];intro y hy;simpa using hf y hy
  rw[this];rfl
 |some j=>
  obtain⟨hj,h2,_⟩:=List.findIdx?_eq_some_iff_getElem.1 hf
  have:l.any (· ==x)=true:=by rw[List.any_eq_true];exact⟨l[j],aed hj,h2⟩
  rw[this];rfl
theorem EO {α:Type} {c:Bool} {o:Option α} {d:α} (h:c=true->∃x,o=some x):∃x,iQ c o d=some x:=by
 cases c
 ·exact⟨d,rfl⟩
 ·exact h rfl
theorem ao9 {n:Nat} {e:Entry} (h:e.aM.length<n) (hb:e.aM.length<2^62):∃b,Aj n e=some b:=by
 obtain⟨r,hr,_⟩:=Um (L:=fun m i=>yO n e m i) (fun i=>0<=i/\i<=e.aM.length) (fun i=>(e.aM.length-i).toNat) (fun _=>True)
  (fun m i hi ih=>by
    rw[U5]
    refine gN (fun hc=> ?_) (fun _=>fM trivial)
    have hc':decide (i< ((e.aM.length:Nat):Int))=true:=by
     revert hc;cases decide (i< ((e.aM.length:Nat):Int))<;>simp
    obtain⟨x,hx⟩:=alj hi.1 hc'
    refine cu ⟨x,hx, ?_⟩
    rw[hx]
    obtain⟨y,hy⟩:=EO (c:= !(decide ((((x.Name.length:Nat):Int))> ((300:Int))))) (o:=some x) (d:=(⟨[],(0:Int),(0:Int),[]⟩:Attr)) (fun _=>⟨x,rfl⟩)
    refine cu ⟨y,hy, ?_⟩
    refine gN (fun _=>fM trivial) (fun _=> ?_)
    have h3:=of_decide_eq_true hc'
    rw[IntKind.wrap_i64]
    have e2:(i+1+9223372036854775808)% 18446744073709551616-9223372036854775808=i+1:=by omega
    rw[e2]
    exact ih _ ⟨by omega,by omega⟩ (by omega)) n (0:Int) ⟨by omega,by omega⟩ (by simpa using h)
 rw[acA,hr]
 cases r with
 |inl q=>exact⟨_,rfl⟩
 |inr q=>exact⟨_,rfl⟩
def nE (s:ak) (n:Nat):Prop:=s.Defs.length<n/\s.Defs.length<2^62/\∀d∈s.Defs,d.Name.length<n/\d.Name.length<2^62/\d.Words.length<n/\d.Words.length<2^62/\∀w∈d.Words,w.length<n/\w.length<2^62
theorem adk {n:Nat} {x:List UInt8} (h:x.length<n) (hb:x.length<2^62) (hn:6<n):∃b:Bool,Ao n x=some b:=by
 obtain⟨r,hr⟩:=wB (L:=fun m (_:Unit) i=>yR n x m i) (l:=x)
  (fun m i c _ hc ih=>by
    have hlt:=qj hc
    show∃r,yR n x (m+1) (i:Int)=some r
    rw[acH,jM hc,fC hc,fE (by omega),cond_true,Option.bind_some]
    cases (bif !(bif decide ((((c.toNat:Nat):Int))>=((97:Int))) then decide ((((c.toNat:Nat):Int))<=((122:Int))) else false) then bif (i:Int)==((0:Int)) then true else !(bif bif decide ((((c.toNat:Nat):Int))>=((48:Int))) then decide ((((c.toNat:Nat):Int))<=((57:Int))) else false then true else (((c.toNat:Nat):Int))==((95:Int))) else false)
    ·exact ih ()
    ·exact⟨_,rfl⟩)
  (fun m _ i hi=>by
    show∃r,yR n x (m+1) (i:Int)=some r
    rw[acH,ql hi];exact⟨_,rfl⟩) x.length 0 n () (by omega) h
 have hr':yR n x n (0:Int)=some r:=hr
 rw[anU,hr']
 cases r with
 |inl q=>
  obtain⟨b,hb'⟩:=EO (c:=bif decide ((((x.length:Nat):Int))>=((1:Int))) then decide ((((x.length:Nat):Int))<=((40:Int))) else false) (o:=yI n (([[(97:UInt8),(108:UInt8),(108:UInt8)],[(97:UInt8),(110:UInt8),(100:UInt8)],[(104:UInt8),(97:UInt8),(115:UInt8)],[(105:UInt8),(110:UInt8)],[(110:UInt8),(111:UInt8),(116:UInt8)],[(111:UInt8),(114:UInt8)]],x))) (d:=false) (fun _=>⟨_,adj (show 6<n from hn) (show 6<2^62 by omega)⟩)
  rw[Option.bind_some]
  show∃b,Option.bind (iQ _ _ _) _=some b
  rw[hb']
  exact⟨_,rfl⟩
 |inr q=>exact⟨q,rfl⟩
theorem apa {n:Nat} {l:List (List UInt8)} (h:l.length<n) (hb:l.length<2^62) (hw:∀w∈l,w.length<n/\w.length<2^62) (hn:6<n):∃e:Int,D8 n l=some e:=by
 rw[anV]
 cases (bif decide ((((l.length:Nat):Int))< ((1:Int))) then true else decide ((((l.length:Nat):Int))> ((50:Int))))
 ·obtain⟨r,hr⟩:=wB (L:=fun m (_:Unit) i=>yS n l m i) (l:=l)
   (fun m i c _ hc ih=>by
     have hlt:=qj hc
     show∃r,yS n l (m+1) (i:Int)=some r
     obtain⟨b,hb'⟩:=adk (hw c (ajn hc)).1 (hw c (ajn hc)).2 hn
     rw[acI,jM hc,fC hc,fE (by omega),cond_true,Option.bind_some,hb']
     cases b
     ·exact⟨_,rfl⟩
     ·exact ih ())
   (fun m _ i hi=>by
     show∃r,yS n l (m+1) (i:Int)=some r
     rw[acI,ql hi];exact⟨_,rfl⟩) l.length 0 n () (by omega) h
  have hr':yS n l n (0:Int)=some r:=hr
  rw[cond_false,hr',Option.bind_some]
  cases r with
  |inr q=>exact⟨q,rfl⟩
  |inl q=>
   obtain⟨r,hr2⟩:=wB (L:=fun m (_:Unit) i=>yT n l m (i+1)) (l:=l.tail)
    (fun m i c _ hc ih=>by
      have hc':l[i+1]? =some c:=by rw[List.getElem?_tail] at hc;exact hc
      have hlt:=qj hc'
      show∃r,yT n l (m+1) ((i:Int)+1)=some r
      have ei:(i:Int)+1=((i+1:Nat):Int):=by omega
      have e0:IntKind.wrap .i64 (((i+1:Nat):Int)-(1:Int))=(i:Int):=by rw[IntKind.wrap_i64];omega
      have hi0:l[i]? =some l[i]:=acR (by omega)
      rw[ei,acJ,jM hc',fC hc',fE (by omega),e0,fC hi0,cond_true,Option.bind_some,Option.bind_some]
      cases (Go.Op.bytesLess c l[i]||c==l[i])
      ·have:=ih ()
       have e1:(((i+1:Nat):Int))+1=((i+1+1:Nat):Int):=by omega
       simp only[e1] at this
       exact this
      ·exact⟨_,rfl⟩)
    (fun m _ i hi=>by
      show∃r,yT n l (m+1) ((i:Int)+1)=some r
      have ei:(i:Int)+1=((i+1:Nat):Int):=by omega
      rw[ei,acJ,ql (by rw[List.length_tail] at hi;omega)];exact⟨_,rfl⟩) l.length 0 n () (by rw[List.length_tail];omega) h
   have hr2':yT n l n (1:Int)=some r:=hr2
   rw[Sum.elim_inl,hr2',Option.bind_some]
   cases r with
   |inl q=>exact⟨0,rfl⟩
   |inr q=>exact⟨q,rfl⟩
 ·exact⟨_,rfl⟩
theorem jy {α:Type} {c:Bool} {a b:Option α} (ha:∃r,a=some r) (hb:∃r,b=some r):∃r,(bif c then a else b)=some r:=by
 cases c
 ·exact hb
 ·exact ha
theorem apb {n:Nat} {d:Def} {x:List UInt8} (h:d.Name.length<n/\d.Name.length<2^62/\d.Words.length<n/\d.Words.length<2^62/\∀w∈d.Words,w.length<n/\w.length<2^62) (hn:6<n):∃e:Int,D9 n (d,x)=some e:=by
 obtain⟨b,hb⟩:=adk h.1 h.2.1 hn
 obtain⟨e,he⟩:=apa h.2.2.1 h.2.2.2.1 h.2.2.2.2 hn
 rw[anX,hb]
 show∃e:Int,(bif !b then some ((5:Int)) else _)=some e
 refine jy ⟨_,rfl⟩ (jy ⟨_,rfl⟩ (jy (jy ⟨_,rfl⟩ (jy ⟨_,rfl⟩ ⟨_,rfl⟩)) (jy (jy ⟨_,rfl⟩ ?_) ⟨_,rfl⟩)))
 rw[he];exact⟨e,rfl⟩
theorem apc {n:Nat} {s:ak} (h:nE s n) (hn:6<n):∃e:Int,Ea n s=some e:=by
 obtain⟨h1,h2,h3⟩:=h
 obtain⟨b,hb⟩:=EO (c:= !(bif decide (s.gq< ((1:Int))) then true else decide (s.gq> ((32:Int))))) (o:=D7 n s.gY) (d:=false) (fun _=>by rw[anS];exact⟨_,rfl⟩)
 obtain⟨r,hr⟩:=wB (L:=fun m (x:List UInt8) i=>yU n s m (x,i)) (l:=s.Defs)
  (fun m i d x hd ih=>by
    have hlt:=qj hd
    show∃r,yU n s (m+1) (x,(i:Int))=some r
    obtain⟨e,he⟩:=apb (x:=x) (h3 d (ajn hd)) hn
    rw[acK,jM hd,fC hd,fE (by omega),cond_true,Option.bind_some,he]
    show∃r,(bif e !=(0:Int) then _ else _)=some r
    exact jy ⟨_,rfl⟩ (ih _))
  (fun m x i hi=>by
    show∃r,yU n s (m+1) (x,(i:Int))=some r
    rw[acK,ql hi];exact⟨_,rfl⟩) s.Defs.length 0 n [] (by omega) h1
 have hr':yU n s n ([],(0:Int))=some r:=hr
 rw[anY]
 show∃e:Int,Option.bind (iQ _ _ _) _=some e
 rw[hb]
 show∃e:Int,(bif _ then some ((1:Int)) else _)=some e
 refine jy ⟨_,rfl⟩ (jy ⟨_,rfl⟩ ?_)
 rw[hr',Option.bind_some]
 cases r with
 |inl q=>exact⟨0,rfl⟩
 |inr q=>exact⟨q,rfl⟩
theorem apd {n:Nat} {s:ak} {k:Int} (h:nE s n):∃b:Bool,Am n (s,k)=some b:=by
 obtain⟨h1,h2,h3⟩:=h
 obtain⟨r,hr⟩:=wB (L:=fun m (_:Unit) i=>yQ n s k m i) (l:=s.Defs)
  (fun m i d _ hd ih=>by
    have hlt:=qj hd
    obtain⟨w1,w2,w3,w4,w5⟩:=h3 d (ajn hd)
    show∃r,yQ n s k (m+1) (i:Int)=some r
    obtain⟨r,hr⟩:=wB (L:=fun m (_:Unit) j=>yP n s k (i:Int) d m j) (l:=d.Words)
     (fun m j w _ hw ih=>by
       have hlt:=qj hw
       show∃r,yP n s k (i:Int) d (m+1) (j:Int)=some r
       rw[acD,jM hw,fC hw,fE (by omega),cond_true,Option.bind_some]
       exact jy ⟨_,rfl⟩ (ih ()))
     (fun m _ j hj=>by
       show∃r,yP n s k (i:Int) d (m+1) (j:Int)=some r
       rw[acD,ql hj];exact⟨_,rfl⟩) d.Words.length 0 n () (by omega) w3
    have hr':yP n s k (i:Int) d n (0:Int)=some r:=hr
    rw[acE,jM hd,fC hd,fE (by omega),Option.bind_some,hr']
    refine jy (jy ⟨_,rfl⟩ ?_) ⟨_,rfl⟩
    cases r with
    |inl q=>exact ih ()
    |inr q=>exact⟨_,rfl⟩)
  (fun m _ i hi=>by
    show∃r,yQ n s k (m+1) (i:Int)=some r
    rw[acE,ql hi];exact⟨_,rfl⟩) s.Defs.length 0 n () (by omega) h1
 have hr':yQ n s k n (0:Int)=some r:=hr
 rw[anR,hr',Option.bind_some]
 cases r with
 |inl q=>exact⟨_,rfl⟩
 |inr q=>exact⟨q,rfl⟩
def ape (l:List Event) (n:Nat):Prop:=l.length<n/\l.length<2^62/\∀x∈l,x.aM.length<n/\x.aM.length<2^62
theorem apf {n:Nat} {l:List Event} {k:Int} (h:ape l n):∃b:Bool,Ak n (l,k)=some b:=by
 obtain⟨h1,h2,h3⟩:=h
 obtain⟨r,hr⟩:=wB (L:=fun m (_:Unit) i=>tT n l k m i) (l:=l)
  (fun m i x _ hx ih=>by
    have hlt:=qj hx
    obtain⟨a1,a2⟩:=h3 x (ajn hx)
    show∃r,tT n l k (m+1) (i:Int)=some r
    rw[PI,jM hx,fC hx,fE (by omega)]
    refine jy ?_ ⟨_,rfl⟩
    rw[Option.bind_some,Option.bind_some]
    obtain⟨b,hb⟩:=ao9 (n:=n) (e:=⟨0,0,0,0,0,0,0,x.Vec,x.aM⟩) a1 a2
    rw[hb]
    show∃r,(bif !b then _ else _)=some r
    exact jy ⟨_,rfl⟩ (ih ()))
  (fun m _ i hi=>by
    show∃r,tT n l k (m+1) (i:Int)=some r
    rw[PI,ql hi];exact⟨_,rfl⟩) l.length 0 n () (by omega) h1
 have hr':tT n l k n (0:Int)=some r:=hr
 rw[acC,hr',Option.bind_some]
 cases r with
 |inl q=>exact⟨_,rfl⟩
 |inr q=>exact⟨q,rfl⟩
theorem apg {n:Nat} {b:Book} {d:Int} (h:b.Rows.length<n) (hb:b.Rows.length<2^62):∃r:Bool,Eb n (b,d)=some r:=by
 have:=Uk (L:=fun m i=>JB n b d m i) (l:=b.Rows) (fun x i r=>bif x.Entry.ID==d then some (.inr true) else r) (some (.inl ()))
  (fun m i x hx=>by
    have hlt:=qj hx
    rw[acL,jM hx,fC hx,fE (by omega)];rfl)
  (fun m=>by rw[acL,Ab];rfl) h
 rw[an0,this,Na (fun x:Row=>x.Entry.ID==d) (fun i=>(Sum.inr true:PUnit⊕Bool)) (.inl ())]
 cases b.Rows.findIdx? (fun x:Row=>x.Entry.ID==d)<;>exact⟨_,rfl⟩
theorem aph {n:Nat} {l:List Int} (h:l.length<n) (hb:l.length<2^62):∃r:Bool,Ec n l=some r:=by
 obtain⟨r,hr⟩:=wB (L:=fun m (_:Unit) i=>yX n l m i) (l:=l)
  (fun m i x _ hx ih=>by
    have hlt:=qj hx
    show∃r,yX n l (m+1) (i:Int)=some r
    rw[acM,jM hx,fC hx,fE (by omega)]
    obtain⟨z,hz⟩:=EO (c:= !(decide (x< ((-1000:Int))))) (o:=some x) (d:=(0:Int)) (fun _=>⟨_,rfl⟩)
    simp only[cond_true,Option.bind_some,hz]
    exact jy ⟨_,rfl⟩ (ih ()))
  (fun m _ i hi=>by
    show∃r,yX n l (m+1) (i:Int)=some r
    rw[acM,ql hi];exact⟨_,rfl⟩) l.length 0 n () (by omega) (by omega)
 have hr':yX n l n (0:Int)=some r:=hr
 rw[an1,hr',Option.bind_some]
 cases r<;>exact⟨_,rfl⟩
theorem apj {n:Nat} {d:Def} {a:Attr} (h:d.Words.length<n) (hb:d.Words.length<2^62):∃r:Int,wE n (d,a)=some r:=by
 rw[an3,adj h hb]
 exact jy ⟨_,rfl⟩ (jy (jy ⟨_,rfl⟩ (jy ⟨_,rfl⟩ ⟨_,rfl⟩)) (jy ⟨_,rfl⟩ (jy ⟨_,rfl⟩ ⟨_,rfl⟩)))
theorem apk {s:ak} {x:List UInt8} (h:¬findD s x<0):∃(i:Nat) (d:Def),findD s x=(i:Int)/\s.Defs[i]? =some d:=by
 unfold findD at h⊢
 cases hf:s.Defs.findIdx? (fun d=>d.Name==x) with
 |none=>rw[hf] at h;exact absurd (by decide) h
 |some i=>
  obtain⟨hi,_⟩:=List.findIdx?_eq_some_iff_getElem.mp hf
  exact⟨i,s.Defs[i],rfl,acR hi⟩
theorem apl {n:Nat} {s:ak} {l:List Attr} (hs:nE s n) (h:l.length<n) (hb:l.length<2^62):∃r:Int,Ee n (s,l)=some r:=by
 obtain⟨s1,s2,s3⟩:=hs
 obtain⟨r,hr⟩:=wB (L:=fun m (_:Unit) i=>tV n s l m i) (l:=l)
  (fun m i x _ hx ih=>by
    have hlt:=qj hx
    have ih':∃r,tV n s l m ((i+1:Nat):Int)=some r:=ih ()
    show∃r,tV n s l (m+1) (i:Int)=some r
    rw[acO,jM hx,fC hx,fE (by omega)]
    simp only[cond_true,Option.bind_some]
    rw[ao8 s1 s2]
    show∃r,(bif decide (findD s x.Name<0) then some (Sum.inr (5:Int)) else _)=some r
    by_cases hf:findD s x.Name<0
    ·rw[decide_eq_true hf];exact⟨_,rfl⟩
    obtain⟨j,d,hj,hd⟩:=apk hf
    rw[decide_eq_false hf,hj,fC hd]
    have hv:∃v:Int,wE n (d,x)=some v:=by
     obtain⟨_,_,w1,w2,_⟩:=s3 d (ajn hd)
     exact apj w1 w2
    obtain⟨v,hv⟩:=hv
    have tail:∃r,((wE n (d,x)).bind fun (bW:Int)=>bif bW !=(0:Int) then some (Sum.inr bW) else tV n s l m ((i+1:Nat):Int))=some r:=by
     rw[hv];exact jy ⟨_,rfl⟩ ih'
    show∃r,(bif decide ((i:Int)>0) then _ else _)=some r
    cases i with
    |zero=>exact tail
    |succ k=>
     have hk:k<l.length:=by omega
     have hy:l[k]? =some l[k]:=acR hk
     have hw:IntKind.wrap .i64 (((k+1:Nat):Int)-(1:Int))=((k:Nat):Int):=by
      rw[show (((k+1:Nat):Int)-(1:Int))=((k:Nat):Int) by omega]
      rw[IntKind.wrap_i64];omega
     rw[decide_eq_true (show ((k+1:Nat):Int)>0 by omega),hw,fC hy]
     show∃r,(bif _ then some (Sum.inr (6:Int)) else _)=some r
     exact jy ⟨_,rfl⟩ tail)
  (fun m _ i hi=>by
    show∃r,tV n s l (m+1) (i:Int)=some r
    rw[acO,ql hi];exact⟨_,rfl⟩) l.length 0 n () (by omega) (by omega)
 have hr':tV n s l n (0:Int)=some r:=hr
 rw[an4,hr',Option.bind_some]
 cases r<;>exact⟨_,rfl⟩
def uZ (v:List Int) (a:List Attr):Prop:=v.length<=40/\a.length<=20/\∀x∈a,x.Name.length<=300/\x.S.length<=300
def Bc (e:Entry) (n:Nat):Prop:=e.Vec.length<n/\e.Vec.length<2^62/\e.aM.length<n/\e.aM.length<2^62/\uZ e.Vec e.aM
theorem adl {n:Nat} {s:ak} {e:Entry} (hs:nE s n) (h:Bc e n):∃r:Int,Ar n (s,e)=some r:=by
 obtain⟨h1,h2,h3,h4,_⟩:=h
 obtain⟨b,hb⟩:=aph h1 h2
 obtain⟨r,hr⟩:=apl hs h3 h4
 rw[an5,hb,hr]
 exact jy ⟨_,rfl⟩ (jy ⟨_,rfl⟩ (jy ⟨_,rfl⟩ ⟨_,rfl⟩))
theorem adn {n:Nat} {e:Entry} (hb:e.aM.length<2^62):∀(m i:Nat),yO n e m (i:Int)=some (.inl ())->∀j (hj:j<e.aM.length),i<=j->j<=20->e.aM[j].Name.length<=300/\e.aM[j].S.length<=300
 |0,i,h,_,_,_,_=>by rw[acz] at h;cases h
 |m+1,i,h,j,hj,hij,h20=>by
  rw[U5] at h
  have hi:i<e.aM.length:=by omega
  have e1:decide ((i:Int)< ((e.aM.length:Nat):Int))=true:=decide_eq_true (by omega)
  have e2:decide ((i:Int)<=(20:Int))=true:=decide_eq_true (by omega)
  have hx:e.aM[i]? =some e.aM[i]:=acR hi
  rw[e1,e2,fC hx,fE (by omega)] at h
  simp only[cond_true,Option.bind_some] at h
  cases hn:decide (((e.aM[i].Name.length:Nat):Int)> (300:Int)) with
  |true=>
   rw[hn] at h
   simp only[Bool.not_true,iQ,cond_false,cond_true,Option.bind_some] at h
   cases h
  |false=>
   rw[hn] at h
   simp only[Bool.not_false,iQ,cond_true,cond_false,Option.bind_some] at h
   cases hs:decide (((e.aM[i].S.length:Nat):Int)> (300:Int)) with
   |true=>rw[hs] at h;cases h
   |false=>
    rw[hs] at h
    have h1:=of_decide_eq_false hn
    have h2:=of_decide_eq_false hs
    by_cases hji:j=i
    ·subst hji;exact⟨by omega,by omega⟩
    ·exact adn hb m (i+1) h j hj (by omega) h20
theorem apm {n:Nat} {e:Entry} (hb:e.aM.length<2^62) (h:Aj n e=some true):uZ e.Vec e.aM:=by
 rw[acA] at h
 obtain⟨r,hr,h⟩:=iR.1 h
 cases r with
 |inr b=>
  have:∀(m i:Nat) b,i<=2^62->yO n e m (i:Int)=some (.inr b)->b=false:=by
   intro m
   induction m with
   |zero=>intro i b _ h;rw[acz] at h;cases h
   |succ m ih=>
    intro i b hi h
    rw[U5] at h
    cases hc:(bif decide ((i:Int)< ((e.aM.length:Nat):Int)) then decide ((i:Int)<=(20:Int)) else false) with
    |false=>rw[hc] at h;cases h
    |true=>
     rw[hc] at h
     have hlt:i<e.aM.length:=by
      cases hd:decide ((i:Int)< ((e.aM.length:Nat):Int)) with
      |false=>rw[hd] at hc;cases hc
      |true=>have:=of_decide_eq_true hd;omega
     rw[cond_true,fE (by omega)] at h
     obtain⟨x,_,h⟩:=iR.1 h
     obtain⟨y,_,h⟩:=iR.1 h
     revert h
     cases (bif decide (((x.Name.length:Nat):Int)> (300:Int)) then true else decide (((y.S.length:Nat):Int)> (300:Int))) with
     |true=>intro h;cases h;rfl
     |false=>intro h;exact ih (i+1) b (by omega) h
  have hb':=this n 0 b (by omega) hr
  subst hb'
  cases h
 |inl u=>
  have h':some (bif decide (((e.Vec.length:Nat):Int)<=(40:Int)) then decide (((e.aM.length:Nat):Int)<=(20:Int)) else false)=some true:=h
  cases hv:decide (((e.Vec.length:Nat):Int)<=(40:Int)) with
  |false=>rw[hv] at h';cases h'
  |true=>
   rw[hv] at h'
   have h1:=of_decide_eq_true hv
   have h2:=of_decide_eq_true (adG h')
   refine⟨by omega,by omega,fun x hx=> ?_⟩
   obtain⟨j,hj,rfl⟩:=ami.1 hx
   exact adn hb n 0 hr j hj (ael _) (by omega)
theorem ado {n:Nat} {l:List Event} {k:Int} (hb:l.length<2^62) (ha:∀e∈l,e.aM.length<2^62):∀(m i:Nat),tT n l k m (i:Int)=some (.inl ())->∀j (hj:j<l.length),i<=j->(j:Int)<=k->uZ l[j].Vec l[j].aM
 |0,i,h,_,_,_,_=>by rw[acB] at h;cases h
 |m+1,i,h,j,hj,hij,hk=>by
  rw[PI] at h
  have hi:i<l.length:=by omega
  have e1:decide ((i:Int)< ((l.length:Nat):Int))=true:=decide_eq_true (by omega)
  have e2:decide ((i:Int)<=k)=true:=decide_eq_true (by omega)
  have hx:l[i]? =some l[i]:=acR hi
  rw[e1,e2,fC hx,fE (by omega)] at h
  simp only[cond_true,Option.bind_some] at h
  obtain⟨b,hf,h⟩:=iR.1 h
  cases b with
  |false=>cases h
  |true=>
   by_cases hji:j=i
   ·subst hji;exact apm (e:=⟨0,0,0,0,0,0,0,l[j].Vec,l[j].aM⟩) (ha _ (aed _)) hf
   ·exact ado hb ha m (i+1) h j hj (by omega) hk
theorem apn {n:Nat} {l:List Event} {k:Int} (hb:l.length<2^62) (ha:∀e∈l,e.aM.length<2^62) (h:Ak n (l,k)=some true):∀e∈l,uZ e.Vec e.aM:=by
 rw[acC] at h
 obtain⟨r,hr,h⟩:=iR.1 h
 cases r with
 |inr b=>
  have:∀(m i:Nat) b,i<=2^62->tT n l k m (i:Int)=some (.inr b)->b=false:=by
   intro m
   induction m with
   |zero=>intro i b _ h;rw[acB] at h;cases h
   |succ m ih=>
    intro i b hi h
    rw[PI] at h
    cases hc:(bif decide ((i:Int)< ((l.length:Nat):Int)) then decide ((i:Int)<=k) else false) with
    |false=>rw[hc] at h;cases h
    |true=>
     rw[hc] at h
     have hlt:i<l.length:=by
      cases hd:decide ((i:Int)< ((l.length:Nat):Int)) with
      |false=>rw[hd] at hc;cases hc
      |true=>have:=of_decide_eq_true hd;omega
     rw[cond_true,fE (by omega)] at h
     obtain⟨x,_,h⟩:=iR.1 h
     obtain⟨y,_,h⟩:=iR.1 h
     obtain⟨f,_,h⟩:=iR.1 h
     revert h
     cases f with
     |false=>intro h;cases h;rfl
     |true=>intro h;exact ih (i+1) b (by omega) h
  have hb':=this n 0 b (by omega) hr
  subst hb'
  cases h
 |inl u=>
  have h':some (decide (((l.length:Nat):Int)<=k))=some true:=h
  have h2:=of_decide_eq_true (adG h')
  intro x hx
  obtain⟨j,hj,rfl⟩:=ami.1 hx
  exact ado hb ha n 0 hr j hj (ael _) (by omega)
theorem apo {n:Nat} {z:Int} (hz0:0<=z) (hz1:z<2^64) (hn:20<n):∃r,AU n n (z,[])=some r/\r.2.length<=9:=by
 refine Um (L:=fun m p=>AU n m p) (fun p=>0<=p.1/\p.2.length<=9/\p.1<2^(64-7*p.2.length)) (fun p=>10-p.2.length) (fun r=>r.2.length<=9) ?_ n _ ⟨hz0,ael _,hz1⟩ (by show 10-0<n;omega)
 rintro m ⟨x2,x3⟩ ⟨ha,hb,hc⟩ ih
 dsimp only at ha hb hc ih⊢
 rw[aom]
 refine gN (fun hd=> ?_) (fun _=>fM hb)
 have hd':=of_decide_eq_true hd
 have hlt:x3.length<9:=by
  by_cases h:x3.length<9
  ·exact h
  ·have e:x3.length=9:=by omega
   rw[e] at hc
   have e2:(2:Int)^(64-7*9)=2:=by decide
   rw[e2] at hc
   exfalso;omega
 have apq:(2:Int)^(64-7*x3.length)<=2^64:=by
  have e:(2:Int)^(64-7*x3.length)=((2^(64-7*x3.length):Nat):Int):=by rw[Int.natCast_pow];rfl
  have e2:(2:Int)^64=((2^64:Nat):Int):=rfl
  rw[e,e2]
  exact Int.ofNat_le.2 (Nat.pow_le_pow_right (by decide) (by omega))
 have aqR:x2<2^64:=Int.lt_of_lt_of_le hc apq
 have hw:IntKind.wrap .u64 (Int.tdiv x2 128)=x2/128:=by
  rw[alk ha,IntKind.wrap_u64];omega
 rw[hw]
 refine gT (by decide) (gT (sD (by simp only[List.length_cons,List.length_nil];omega) (by decide)) (gT (by decide) ?_))
 refine ih _ ⟨Int.ediv_nonneg ha (by decide), ?_, ?_⟩ (by show 10-(x3++[_]).length<10-x3.length;rw[iP,List.length_cons,List.length_nil];omega)
 ·show (x3++[_]).length<=9;rw[iP,List.length_cons,List.length_nil];omega
 ·show x2/128<2^(64-7*(x3++[_]).length)
  rw[iP,List.length_cons,List.length_nil]
  have e:(2:Int)^(64-7*x3.length)=2^(64-7*(x3.length+1))*128:=by
   have:64-7*x3.length=(64-7*(x3.length+1))+7:=by omega
   rw[this,Int.pow_add];rfl
  rw[e] at hc
  exact Int.ediv_lt_of_lt_mul (by decide) hc
theorem apr (x:Int):IntKind.wrap .u64 x<2^64:=by rw[IntKind.wrap_u64];exact Int.emod_lt_of_pos _ (by decide)
theorem PN {n:Nat} (x:Int) (hn:20<n):∃r:List Int,uT n x=some r/\r.length<=10:=by
 rw[aon]
 refine gN (fun _=> ?_) (fun _=> ?_)
 all_goals
  generalize hz:IntKind.wrap .u64 _=z
  have hz0:0<=z:=by rw[<-hz];exact Un _
  have hz1:z<2^64:=by rw[<-hz];exact apr _
  obtain⟨r4,hr4,l4⟩:=apo hz0 hz1 hn
  refine cu ⟨r4,hr4, ?_⟩
  refine gT (sD (by simp only[List.length_cons,List.length_nil];omega) (by decide)) (fM ?_)
  rw[iP,List.length_cons,List.length_nil];omega
theorem aps {n:Nat} {l:List UInt8} (hn:20<n) (hl:l.length<2^29):∃r:List Int,En n l=some r/\r.length<=l.length+10:=by
 rw[aop]
 obtain⟨r,hr,h⟩:=PN (n:=n) ((l.length:Nat):Int) hn
 refine cu ⟨r,hr,gT (sD (by rw[aau];omega) (by decide)) (fM ?_)⟩
 rw[iP,aau];omega
theorem apt {n:Nat} {l:List Int} (hl:l.length<2^20) (hn:l.length<n) (hn2:20<n):∃r:List Int,AA n l=some r/\r.length<=10+10*l.length:=by
 rw[aoo]
 obtain⟨r2,hr2,l2⟩:=PN (n:=n) ((l.length:Nat):Int) hn2
 have h3:∀(k i m:Nat) (a:List Int),i+k=l.length->k<m->a.length<=10+10*i->∃r,JE n l m (a,(i:Int))=some r/\r.length<=10+10*l.length:=by
  intro k
  induction k with
  |zero=>
   intro i m a hi hm hc
   obtain⟨m,rfl⟩:∃m',m=m'+1:=⟨m-1,by omega⟩
   rw[ac2,ql (by omega)]
   exact fM (by omega)
  |succ k ih=>
   intro i m a hi hm hc
   obtain⟨m,rfl⟩:∃m',m=m'+1:=⟨m-1,by omega⟩
   have hlt:i<l.length:=by omega
   have hx:l[i]? =some l[i]:=acR hlt
   rw[ac2,jM hx,fC hx,fE (by omega),cond_true,Option.bind_some]
   obtain⟨w,hw,lw⟩:=PN (n:=n) l[i] hn2
   refine cu ⟨w,hw,gT (sD (by omega) (by decide)) ?_⟩
   exact ih (i+1) m (a++w) (by omega) (by omega) (by rw[iP];omega)
 obtain⟨r,hr,e⟩:=h3 l.length 0 n r2 (by omega) hn (by omega)
 exact cu ⟨r2,hr2,cu ⟨r,hr,fM e⟩⟩
theorem apu {n:Nat} {l:List (List UInt8)} (hl:l.length<2^12) (hs:∀x∈l,x.length<=300) (hn:l.length<n) (hn2:20<n):∃r:List Int,Eo n l=some r/\r.length<=10+310*l.length:=by
 rw[aoq]
 obtain⟨r2,hr2,l2⟩:=PN (n:=n) ((l.length:Nat):Int) hn2
 have h3:∀(k i m:Nat) (a:List Int),i+k=l.length->k<m->a.length<=10+310*i->∃r,JF n l m (a,(i:Int))=some r/\r.length<=10+310*l.length:=by
  intro k
  induction k with
  |zero=>
   intro i m a hi hm hc
   obtain⟨m,rfl⟩:∃m',m=m'+1:=⟨m-1,by omega⟩
   rw[ac3,ql (by omega)]
   exact fM (by omega)
  |succ k ih=>
   intro i m a hi hm hc
   obtain⟨m,rfl⟩:∃m',m=m'+1:=⟨m-1,by omega⟩
   have hlt:i<l.length:=by omega
   have hx:l[i]? =some l[i]:=acR hlt
   have aqS:=hs _ (aed hlt)
   rw[ac3,jM hx,fC hx,fE (by omega),cond_true,Option.bind_some]
   obtain⟨w,hw,lw⟩:=aps (n:=n) (l:=l[i]) hn2 (by omega)
   refine cu ⟨w,hw,gT (sD (by omega) (by decide)) ?_⟩
   exact ih (i+1) m (a++w) (by omega) (by omega) (by rw[iP];omega)
 obtain⟨r,hr,e⟩:=h3 l.length 0 n r2 (by omega) hn (by omega)
 exact cu ⟨r2,hr2,cu ⟨r,hr,fM e⟩⟩
theorem adp {n:Nat} {e:Entry} (h:uZ e.Vec e.aM) (hn:2^20<n):∃r:List Int,AB n e=some r/\r.length<=2^15:=by
 obtain⟨h1,h2,h3⟩:=h
 rw[aor]
 refine gT (sD (by simp only[List.length_cons,List.length_nil];omega) (by decide)) (gT (sD (by simp only[iP,List.length_cons,List.length_nil];omega) (by decide)) ?_)
 generalize hz:(([e.ID,e.fI,e.bI,e.iW,e.From,e.To,e.jv,((e.Vec.length:Nat):Int)]++e.Vec)++[((e.aM.length:Nat):Int)])=z
 have l2':z.length<=49:=by rw[<-hz];simp only[iP,List.length_cons,List.length_nil];omega
 have h4:∀(k i m:Nat) (a:List Int) (b:List (List UInt8)),i+k=e.aM.length->k<m->a.length<=49+2*i->b.length<=2*i->(∀x∈b,x.length<=300)->
  ∃r,JG n e m (a,(b,(i:Int)))=some r/\(r.1.length<=89/\r.2.length<=40/\∀x∈r.2,x.length<=300):=by
  intro k
  induction k with
  |zero=>
   intro i m a b hi hm ha hb hx
   obtain⟨m,rfl⟩:∃m',m=m'+1:=⟨m-1,by omega⟩
   rw[ac4,ql (by omega)]
   exact fM ⟨by show a.length<=89;omega,by show b.length<=40;omega,hx⟩
  |succ k ih=>
   intro i m a b hi hm ha hb hx
   obtain⟨m,rfl⟩:∃m',m=m'+1:=⟨m-1,by omega⟩
   have hlt:i<e.aM.length:=by omega
   have hg:e.aM[i]? =some e.aM[i]:=acR hlt
   obtain⟨y1,y2⟩:=h3 _ (aed hlt)
   rw[ac4,jM hg,fC hg,fE (by omega)]
   simp only[cond_true,Option.bind_some]
   refine gT (sD (by simp only[List.length_cons,List.length_nil];omega) (by decide)) (gT (sD (by simp only[List.length_cons,List.length_nil];omega) (by decide)) ?_)
   refine ih (i+1) m _ _ (by omega) (by omega) (by rw[iP,List.length_cons,List.length_cons,List.length_nil];omega) (by rw[iP,List.length_cons,List.length_cons,List.length_nil];omega) (fun x hx'=> ?_)
   rcases agj.1 hx' with hx'|hx'
   ·exact hx x hx'
   ·rcases adf.1 hx' with rfl|hx'
    ·exact y1
    ·rcases adf.1 hx' with rfl|hx'
     ·exact y2
     ·cases hx'
 obtain⟨r7,hr7,a7,b7,c7⟩:=h4 e.aM.length 0 n z [] (by omega) (by omega) (by omega) (by simp) (fun x hx=>absurd hx List.not_mem_nil)
 refine cu ⟨r7,hr7, ?_⟩
 obtain⟨r8,hr8,l8⟩:=apt (n:=n) (l:=r7.1) (by omega) (by omega) (by omega)
 obtain⟨r9,hr9,l9⟩:=apu (n:=n) (l:=r7.2) (by omega) c7 (by omega) (by omega)
 refine cu ⟨r8,hr8,gT (sD (by omega) (by decide)) (cu ⟨r9,hr9, ?_⟩)⟩
 refine gT (sD (by simp only[List.nil_append];omega) (by decide)) (fM ?_)
 show ((([]:List Int)++r8)++r9).length<=2^15
 rw[List.nil_append,iP];omega
theorem apy {n:Nat} {l:List Row} (ht:∀r∈l,uZ r.Entry.Vec r.Entry.aM) (hn:2^20<n) (hb:l.length<=65536):sF n (l,l)=some true:=by
 rw[aoP]
 have e0:(((l.length:Nat):Int) !=((l.length:Nat):Int))=false:=by simp
 rw[e0,cond_false]
 have h4:∀(k i m:Nat),i+k=l.length->k<m->JY n l l m (i:Int)=some (.inl ()):=by
  intro k
  induction k with
  |zero=>
   intro i m hi hm
   obtain⟨m,rfl⟩:∃m',m=m'+1:=⟨m-1,by omega⟩
   rw[ac9,ql (by omega)]
   rfl
  |succ k ih=>
   intro i m hi hm
   obtain⟨m,rfl⟩:∃m',m=m'+1:=⟨m-1,by omega⟩
   have hlt:i<l.length:=by omega
   have hx:l[i]? =some l[i]:=acR hlt
   rw[ac9,jM hx,fC hx,fE (by omega)]
   simp only[cond_true,Option.bind_some]
   have e1:(l[i].dI !=l[i].dI)=false:=by simp
   rw[e1,Bool.not_false,cond_true]
   obtain⟨c,hc,_⟩:=adp (ht _ (aed hlt)) hn
   have hs:yK n (l[i].Entry,l[i].Entry)=some true:=by
    rw[ac5]
    refine bs hc (bs hc ?_)
    simp
   refine bs hs ?_
   exact ih (i+1) m (by omega) (by omega)
 exact bs (h4 l.length 0 n (by omega) (by omega)) rfl
end Sh
end
section
open Go Go.Proofs Aq
namespace Sh
def tX (id nG commit:Int) (r:Row):Row:=if r.Entry.ID=id/\r.Entry.From=nG/\r.dI=0/\r.Entry.jv<commit then ⟨r.Entry,commit⟩ else r
theorem set_mid {α:Type} (a:List α) (x y:α) (b:List α):aW (a++x::b) (a.length:Int) y=a++y::b:=by
 unfold aW
 rw[show ((a.length:Int)).toNat=a.length from rfl,List.set_append_right _ _ (RS _),Nat.sub_self];rfl
theorem apz {n:Nat} {rows:List Row} {id nG commit:Int} (h:rows.length<n) (hb:rows.length<2^30):Au n (rows,(id,(nG,commit)))=some (rows.map (tX id nG commit)):=by
 have key:∀(b a:List Row) (m:Nat),a.length+b.length=rows.length->b.length<m->EB n id nG commit m ((a.length:Int),a++b)=some ((),a++b.map (tX id nG commit)):=by
  intro b
  induction b with
  |nil=>
   intro a m hl hm
   obtain⟨m,rfl⟩:∃m',m=m'+1:=⟨m-1,by simp at hm;omega⟩
   rw[acQ,aeX,Ab];simp
  |cons x b ih=>
   intro a m hl hm
   obtain⟨m,rfl⟩:∃m',m=m'+1:=⟨m-1,by simp at hm;omega⟩
   simp only[List.length_cons] at hl hm
   have hx:(a++x::b)[a.length]? =some x:=by simp
   have hin:=HY (qj hx)
   have ih':=fun y=>ih (a++[y]) m (by simp;omega) (by omega)
   have e0:∀y,(((a++[y]).length:Nat):Int)=((a.length+1:Nat):Int):=fun y=>by simp
   rw[acQ,jM hx,cond_true,hin,cond_true]
   refine bs (fC hx) ?_
   have imp:∀b:Bool,Gi b true=true:=fun b=>by cases b<;>rfl
   have hw:∀(c:Bool) (d:Row),iQ c (aB (a++x::b) ((a.length:Nat):Int)) d=some (bif c then x else d):=fun c d=>by rw[fC hx];exact Ul
   rw[imp,cond_true]
   refine bs (hw _ _) ?_
   rw[imp,cond_true]
   refine bs (hw _ _) ?_
   rw[imp,cond_true]
   refine bs (hw _ _) ?_
   have hset:aW (a++x::b) ((a.length:Nat):Int) (⟨x.Entry,commit⟩:Row)=a++[(⟨x.Entry,commit⟩:Row)]++b:=by rw[set_mid];simp
   by_cases c1:x.Entry.ID=id
   ·have e1:(x.Entry.ID==id)=true:=by simpa using c1
    simp only[e1,cond_true]
    by_cases c2:x.Entry.From=nG
    ·have e2:(x.Entry.From==nG)=true:=by simpa using c2
     simp only[e2,cond_true]
     by_cases c3:x.dI=0
     ·have e3:(x.dI==(0:Int))=true:=by simpa using c3
      simp only[e3,cond_true]
      by_cases c4:x.Entry.jv<commit
      ·rw[decide_eq_true c4,cond_true]
       refine bs (fC hx) ?_
       rw[fE (by omega),hset,<-e0,ih']
       simp[tX,c1,c2,c3,c4]
      ·rw[decide_eq_false c4,cond_false,fE (by omega),show a++x::b=a++[x]++b by simp,<-e0 x,ih']
       simp[tX,c1,c2,c3,c4]
     ·have e3:(x.dI==(0:Int))=false:=by simpa using c3
      simp only[e3,cond_false]
      rw[fE (by omega),show a++x::b=a++[x]++b by simp,<-e0 x,ih']
      simp[tX,c3]
    ·have e2:(x.Entry.From==nG)=false:=by simpa using c2
     simp only[e2,cond_false]
     rw[fE (by omega),show a++x::b=a++[x]++b by simp,<-e0 x,ih']
     simp[tX,c2]
   ·have e1:(x.Entry.ID==id)=false:=by simpa using c1
    simp only[e1,cond_false]
    rw[fE (by omega),show a++x::b=a++[x]++b by simp,<-e0 x,ih']
    simp[tX,c1]
 rw[an7,uO hb (by omega),cond_true]
 exact bs (key rows [] n (by simp) h) rfl
theorem adq {α:Type} {l:List α} {i:Int} {x y:α} (h:y∈aW l i x):y∈l\/y=x:=by
 unfold aW at h
 exact List.mem_or_eq_of_mem_set h
theorem Vh {α:Type} (l:List α) (i:Int) (x:α):(aW l i x).length=l.length:=by unfold aW;simp
theorem apA {n:Nat} {b:Book} {id i:Int} {x:Row} (hx:aB b.Rows i=some x):∀(k m:Nat) (out:List Row),k<out.length->k<m->k<2^62->(∀r∈out,r∈b.Rows/\r.Entry.ID=id)->
 ∃(k':Nat) (out':List Row),JD n b id i m ((k:Int),out)=some ((k':Int),out')/\k'<out'.length/\out'.length=out.length/\∀r∈out',r∈b.Rows/\r.Entry.ID=id:=by
 intro k
 induction k with
 |zero=>
  intro m out hk hm hb ho
  obtain⟨m,rfl⟩:∃m',m=m'+1:=⟨m-1,by omega⟩
  exact⟨0,out,by rw[acS];rfl,hk,rfl,ho⟩
 |succ k ih=>
  intro m out hk hm hb ho
  obtain⟨m,rfl⟩:∃m',m=m'+1:=⟨m-1,by omega⟩
  have hk1:k<out.length:=by omega
  have hy:aB out ((k:Nat):Int)=some out[k]:=by rw[Aa,acR hk1]
  have hz:aB out (((k+1:Nat)):Int)=some out[k+1]:=by rw[Aa,acR hk]
  have hym:out[k]∈out:=aed hk1
  generalize out[k]=y at hy hym
  generalize out[k+1]=z at hz
  have hw:IntKind.wrap .i64 (((k+1:Nat):Int)-(1:Int))=((k:Nat):Int):=by rw[HZ (by omega) hb];rfl
  rw[acS,decide_eq_true (by omega),cond_true,hw,HY hk1,cond_true]
  by_cases c:y.Entry.From>x.Entry.From
  ·obtain⟨k',out',h1,h2,h3,h4⟩:=ih m (aW out ((k+1:Nat):Int) y) (by rw[Vh];exact hk1) (by omega) (by omega) (fun r hr=>by
    rcases adq hr with h|h
    ·exact ho r h
    ·rw[h];exact ho y hym)
   refine⟨k',out', ?_,h2,by rw[h3,Vh],h4⟩
   refine bs hy (bs hx ?_)
   rw[decide_eq_true c,cond_true]
   refine bs hy ?_
   rw[HY hk,cond_true]
   exact bs hz h1
  ·refine⟨k+1,out, ?_,hk,rfl,ho⟩
   refine bs hy (bs hx ?_)
   rw[decide_eq_false c,cond_false]
theorem apB {n:Nat} {b:Book} {id:Int} (h:b.Rows.length<n) (hb:b.Rows.length<2^29):∃l:List Row,wF n (b,id)=some l/\l.length<=b.Rows.length/\∀r∈l,r∈b.Rows/\r.Entry.ID=id:=by
 have key:∀(k i m:Nat) (out:List Row),i+k=b.Rows.length->k<m->out.length<=i->(∀r∈out,r∈b.Rows/\r.Entry.ID=id)->∃q:PUnit×List Row,AO n b id m (((),(i:Int)),out)=some q/\q.2.length<=b.Rows.length/\∀r∈q.2,r∈b.Rows/\r.Entry.ID=id:=by
  intro k
  induction k with
  |zero=>
   intro i m out hi hm ho hr
   obtain⟨m,rfl⟩:∃m',m=m'+1:=⟨m-1,by omega⟩
   exact⟨((),out),by rw[acT,decide_eq_false (by omega)];rfl,by show out.length<=_;omega,hr⟩
  |succ k ih=>
   intro i m out hi hm ho hr
   obtain⟨m,rfl⟩:∃m',m=m'+1:=⟨m-1,by omega⟩
   have hlt:i<b.Rows.length:=by omega
   have hx:aB b.Rows (i:Int)=some b.Rows[i]:=by rw[Aa,acR hlt]
   have hxm:b.Rows[i]∈b.Rows:=aed hlt
   generalize b.Rows[i]=x at hx hxm
   have hw:∀(c:Bool) (d:Row),iQ c (aB b.Rows ((i:Nat):Int)) d=some (bif c then x else d):=fun c d=>by rw[hx];exact Ul
   have next:∀out':List Row,out'.length<=i+1->(∀r∈out',r∈b.Rows/\r.Entry.ID=id)->∃q:PUnit×List Row,AO n b id m (((),IntKind.wrap .i64 ((i:Int)+(1:Int))),out')=some q/\q.2.length<=b.Rows.length/\∀r∈q.2,r∈b.Rows/\r.Entry.ID=id:=fun out' h1 h2=>by
    rw[fE (by omega)];exact ih (i+1) m out' (by omega) (by omega) h1 h2
   rw[acT,decide_eq_true (by omega),cond_true]
   refine cu ⟨x,hx, ?_⟩
   refine cu ⟨_,hw _ _, ?_⟩
   refine gN (fun hid=> ?_) (fun _=>next out (by omega) hr)
   have hid:x.Entry.ID=id:=by
    cases h:(x.Entry.ID==id)
    ·rw[h] at hid;cases hid
    ·simpa using h
   refine cu ⟨x,hx, ?_⟩
   rw[uO (show out.length+[x].length<2^30 by simp;omega) (by omega),cond_true]
   obtain⟨k',out',h1,h2,h3,h4⟩:=apA (n:=n) (b:=b) (id:=id) hx out.length n (out++[x]) (by simp) (by omega) (by omega) (fun r hr'=>by
    rcases agj.1 hr' with h|h
    ·exact hr r h
    ·simp at h;rw[h];exact⟨hxm,hid⟩)
   refine cu ⟨_,h1, ?_⟩
   refine cu ⟨x,hx, ?_⟩
   dsimp only
   rw[HY h2,cond_true]
   refine cu ⟨out'[k'],by rw[Aa,acR h2], ?_⟩
   refine next _ (by rw[Vh,h3];simp;omega) (fun r hr'=> ?_)
   rcases adq hr' with h|h
   ·exact h4 r h
   ·rw[h];exact⟨hxm,hid⟩
 obtain⟨l,h1,h2,h3⟩:=key b.Rows.length 0 n [] (by omega) h (by simp) (by simp)
 exact⟨l.2,by rw[aoa];exact bs h1 rfl,h2,h3⟩
theorem EP {α:Type} {P:α->Prop} {a k:Nat} {o:Option α} (ho:∃r,o=some r/\P r) (h:a<2^31) (hk:k<=2^12:=by omega):∃r,(bif bJ a k then o else none)=some r/\P r:=by
 have:bJ a k=true:=by
  unfold bJ
  have h1:a*k<=2^31*2^12:=Nat.mul_le_mul (Nat.le_of_lt h) hk
  have e:(2:Nat)^31*2^12<=2^47:=by decide
  rw[aan,decide_eq_true_iff,decide_eq_true_iff]
  exact⟨by omega,by omega⟩
 rw[this];exact ho
def Dd (c:Int) (r r':Row):Prop:=r'=r\/(r.dI=0/\r'=⟨r.Entry,c⟩)
theorem Dd.entry {c:Int} {r r':Row} (h:Dd c r r'):r'.Entry=r.Entry:=by
 rcases h with h| ⟨_,h⟩<;>rw[h]
theorem apC (id nG c:Int) (r:Row):Dd c r (tX id nG c r):=by
 unfold tX
 split
 ·rename_i h;exact .inr ⟨h.2.2.1,rfl⟩
 ·exact .inl rfl
theorem Dd.trans {c:Int} (hc:c≠0) {r r1 r2:Row} (h:Dd c r r1) (g:Dd c r1 r2):Dd c r r2:=by
 rcases h with rfl| ⟨h1,rfl⟩
 ·exact g
 ·rcases g with rfl| ⟨g1,_⟩
  ·exact .inr ⟨h1,rfl⟩
  ·exact absurd g1 hc
def j5 (r:Row):Int×Int:=(r.Entry.ID,r.Entry.fI)
structure CI (n:Nat) (e:Event) (kT:List Row) (v:Int) (i:Nat) (ver:Int) (rows added:List Row):Prop where
 f:∃f:Row->Row,rows=kT.map f/\∀r,Dd e.aI r (f r)
 v1:v<=ver
 v2:ver<=v+i
 len:added.length<=i
 add:∀r∈added,r.dI=0/\Bc r.Entry n/\r.Entry.ID=e.ID/\v<r.Entry.fI/\r.Entry.fI<=ver
 ER:(added.map j5).Nodup
theorem CI.length {n:Nat} {e:Event} {kT:List Row} {v:Int} {i:Nat} {ver:Int} {rows added:List Row} (h:CI n e kT v i ver rows added):rows.length=kT.length:=by
 obtain⟨f,rfl,_⟩:=h.f;simp
theorem CI.die {n:Nat} {e:Event} {kT:List Row} {v:Int} {i:Nat} {ver:Int} {rows added:List Row} (h:CI n e kT v i ver rows added) (hc:1<=e.aI) (nG:Int):CI n e kT v i ver (rows.map (tX e.ID nG e.aI)) added:=by
 obtain⟨f,rfl,hf⟩:=h.f
 exact {h with f:=⟨fun r=>tX e.ID nG e.aI (f r),by rw[aj1];rfl,fun r=>(hf r).trans (by omega) (apC _ _ _ _)⟩}
theorem CI.next {n:Nat} {e:Event} {kT:List Row} {v:Int} {i:Nat} {ver:Int} {rows added:List Row} (h:CI n e kT v i ver rows added):CI n e kT v (i+1) ver rows added:=
 {h with v2:=by have:=h.v2;omega,len:=by have:=h.len;omega}
theorem CI.push {n:Nat} {e:Event} {kT:List Row} {v:Int} {i:Nat} {ver:Int} {rows added:List Row} (h:CI n e kT v i ver rows added) {y:Row} (h1:y.dI=0) (h2:Bc y.Entry n) (h3:y.Entry.ID=e.ID) (h4:y.Entry.fI=ver+1):CI n e kT v (i+1) (ver+1) rows (added++[y]):=by
 have v1:=h.v1
 have v2:=h.v2
 have len:=h.len
 refine⟨h.f,by omega,by omega,by rw[iP,List.length_singleton];omega,fun r hr=> ?_, ?_⟩
 ·rcases agj.1 hr with hr|hr
  ·obtain⟨a1,a2,a3,a4,a5⟩:=h.add r hr
   exact⟨a1,a2,a3,a4,by omega⟩
  ·rw[adu.1 hr];exact⟨h1,h2,h3,by omega,by omega⟩
 ·rw[afr,List.nodup_append]
  refine⟨h.ER,by simp,fun a ha b hb=> ?_⟩
  obtain⟨r,hr,rfl⟩:=ajQ.1 ha
  have hb':b=j5 y:=by simpa using hb
  obtain⟨_,_,_,_,a5⟩:=h.add r hr
  rw[hb']
  intro hk
  have:=congrArg Prod.snd hk
  simp only[j5] at this
  omega
theorem apD {n:Nat} {b:Book} {e:Event} {l:List Row} {to:List bS} {more:Entry} {kT:List Row} {v:Int} (hn:2^20<n) (hl:l.length<=65536) (hlt:to.length=l.length) (hlr:∀r∈l,Bc r.Entry n/\r.Entry.ID=e.ID) (hc:1<=e.aI) (hr0:kT.length<=65536) (hv0:0<=v) (hv1:v<2^50):
 ∀(k i m:Nat) (ver:Int) (rows added:List Row),i+k=l.length->k<m->CI n e kT v i ver rows added->
 ∃q:Int×(List Row)×List Row,sG n b e l to more m (ver,(rows,(added,(i:Int))))=some q/\CI n e kT v l.length q.1 q.2.1 q.2.2:=by
 intro k
 induction k with
 |zero=>
  intro i m ver rows added hi hm h1
  obtain⟨m,rfl⟩:∃m',m=m'+1:=⟨m-1,by omega⟩
  obtain rfl:i=l.length:=by omega
  exact⟨_,by rw[U6,decide_eq_false (by omega)];rfl,h1⟩
 |succ k ih=>
  intro i m ver rows added hi hm h1
  obtain⟨m,rfl⟩:∃m',m=m'+1:=⟨m-1,by omega⟩
  have hrl:=h1.length
  have v1:=h1.v1
  have v2:=h1.v2
  have hal:=h1.len
  obtain⟨x,hx,hxm⟩:=yE (l:=l) (i:=i) (by omega)
  obtain⟨d,hd,_⟩:=yE (l:=to) (i:=i) (by omega)
  have adr:=fun nG=>apz (n:=n) (rows:=rows) (id:=e.ID) (nG:=nG) (commit:=e.aI) (by omega) (by omega)
  have nx:∀(ver:Int) (rows' qw:List Row),CI n e kT v (i+1) ver rows' qw->
   ∃q:Int×(List Row)×List Row,sG n b e l to more m (ver,(rows',(qw,IntKind.wrap .i64 ((i:Int)+(1:Int)))))=some q/\CI n e kT v l.length q.1 q.2.1 q.2.2:=fun ver rows' qw k1=>by
   rw[fE (by omega)]
   exact ih (i+1) m ver rows' qw (by omega) (by omega) k1
  have hw:IntKind.wrap .i64 (ver+(1:Int))=ver+1:=j4 (by omega) (by omega)
  have grow:∀(c:Bool) (rows':List Row),CI n e kT v i ver rows' added->∃q:Int×(List Row)×List Row,(bif c then
        (aB to (i:Int)).bind fun (oU:bS)=>
        (aB to (i:Int)).bind fun (wM:bS)=>
        bif bJ (added.length+([(⟨(⟨x.Entry.ID,ver+1,x.Entry.bI,x.Entry.iW,oU.from_,wM.to,e.aI,x.Entry.Vec,x.Entry.aM⟩:Entry),(0:Int)⟩:Row)].length)) 112 then
         sG n b e l to more m ((ver+1,(rows',(added++[(⟨(⟨x.Entry.ID,ver+1,x.Entry.bI,x.Entry.iW,oU.from_,wM.to,e.aI,x.Entry.Vec,x.Entry.aM⟩:Entry),(0:Int)⟩:Row)],Go.IntKind.wrap .i64 ((i:Int)+((1:Int)))))))
        else
         none
   else
    sG n b e l to more m ((ver,(rows',(added,Go.IntKind.wrap .i64 ((i:Int)+((1:Int))))))))=some q/\CI n e kT v l.length q.1 q.2.1 q.2.2:=by
   intro c rows' k1
   refine gN (fun _=> ?_) (fun _=>nx _ _ _ k1.next)
   refine cu ⟨d,hd, ?_⟩
   refine cu ⟨d,hd, ?_⟩
   exact EP (nx _ _ _ (k1.push rfl (hlr x hxm).1 (hlr x hxm).2 rfl)) (by simp;omega)
  rw[U6,decide_eq_true (by omega),cond_true,hw]
  refine cu ⟨x,hx, ?_⟩
  refine cu ⟨d,hd, ?_⟩
  refine gN (fun _=> ?_) (fun _=> ?_)
  ·refine cu ⟨d,hd, ?_⟩
   refine gN (fun _=>nx _ _ _ h1.next) (fun _=> ?_)
   refine cu ⟨_,adr _, ?_⟩
   refine cu ⟨d,hd, ?_⟩
   refine cu ⟨d,hd, ?_⟩
   exact grow _ _ (h1.die hc _)
  ·refine cu ⟨_,adr _, ?_⟩
   refine cu ⟨d,hd, ?_⟩
   refine cu ⟨d,hd, ?_⟩
   exact grow _ _ (h1.die hc _)
theorem apE {n:Nat} {b:Book} {id V:Int} (h:b.Rows.length<n) (hb:b.Rows.length<2^62) (hV:∀r∈b.Rows,r.Entry.fI<=V) (hV0:0<=V):∃v:Int,Ef n (b,id)=some v/\0<=v/\v<=V/\∀r∈b.Rows,r.Entry.ID=id->r.Entry.fI<=v:=by
 have key:∀(k i m:Nat) (s:Int),i+k=b.Rows.length->k<m->0<=s->s<=V->(∀r∈b.Rows.take i,r.Entry.ID=id->r.Entry.fI<=s)->∃v:Int,EA n b id m (s,(i:Int))=some v/\0<=v/\v<=V/\∀r∈b.Rows,r.Entry.ID=id->r.Entry.fI<=v:=by
  intro k
  induction k with
  |zero=>
   intro i m s hi hm h0 h1 h2
   obtain⟨m,rfl⟩:∃m',m=m'+1:=⟨m-1,by omega⟩
   rw[acP,decide_eq_false (by omega)]
   rw[agk (by omega)] at h2
   exact⟨s,rfl,h0,h1,h2⟩
  |succ k ih=>
   intro i m s hi hm h0 h1 h2
   obtain⟨m,rfl⟩:∃m',m=m'+1:=⟨m-1,by omega⟩
   have hlt:i<b.Rows.length:=by omega
   have hx:b.Rows[i]? =some b.Rows[i]:=acR hlt
   have hxm:b.Rows[i]∈b.Rows:=aed hlt
   have ht:b.Rows.take (i+1)=b.Rows.take i++[b.Rows[i]]:=by rw[List.take_add_one,hx];rfl
   have hVx:=hV _ hxm
   rw[acP,jM hx,fE (by omega),cond_true]
   refine cu ⟨_,fC hx, ?_⟩
   refine gN (fun hid=> ?_) (fun hid=> ?_)
   ·refine cu ⟨_,fC hx, ?_⟩
    refine ih (i+1) m _ (by omega) (by omega) (by unfold imax;split<;>omega) (by unfold imax;split<;>omega) (fun r hr hr2=> ?_)
    rw[ht] at hr
    rcases agj.1 hr with hr|hr
    ·have:=h2 r hr hr2;unfold imax;split<;>omega
    ·rw[adu.1 hr];unfold imax;split<;>omega
   ·refine ih (i+1) m _ (by omega) (by omega) h0 h1 (fun r hr hr2=> ?_)
    rw[ht] at hr
    rcases agj.1 hr with hr|hr
    ·exact h2 r hr hr2
    ·rw[adu.1 hr] at hr2
     rw[hr2] at hid;simp at hid
 obtain⟨v,h1,h2⟩:=key b.Rows.length 0 n 0 (by omega) h (ajN _) hV0 (by simp)
 exact⟨v,by rw[an6];exact bs h1 rfl,h2⟩
end Sh
end
section
open Go Go.Proofs Aq
namespace Sh
def lV (l:List Int) (c:Nat):Int:=if c=0 then 0 else l.getD (c-1) 0
theorem Vi {l:List Int} {d:Int} {c:Nat} (h:c<=l.length):lV (l++[d]) c=lV l c:=by
 unfold lV
 split
 ·rfl
 ·rw[adH,adH,amk (by omega)]
theorem Vj (l:List Int) (d:Int):lV (l++[d]) (l.length+1)=d:=by
 unfold lV
 rw[if_neg (by omega),adH];simp
def ROK (n:Nat) (c:Int) (r:Row):Prop:=(r.dI=0\/(1<=r.dI/\r.dI<=c))/\Bc r.Entry n/\r.Entry.fI<=65538*c
structure BI (n:Nat) (s:ak) (b:Book):Prop where
 schema:b.ak=s
 commit:b.aI=((b.bO.length:Nat):Int)
 days:b.bO.length<=2^30
 rows:b.Rows.length<=65536
 row:∀r∈b.Rows,ROK n b.aI r
 mono:∀c c':Nat,c<=c'->c'<=b.bO.length->lV b.bO c<=lV b.bO c'
 day:lV b.bO b.bO.length=b.Day
 ER:(b.Rows.map j5).Nodup
structure StepB (b:Book) (e:Event) (b':Book):Prop where
 commit:b'.aI=b.aI+1
 day:b'.Day=e.Day
 days:b'.bO=b.bO++[e.Day]
 rows:∃(f:Row->Row) (t:List Row),b'.Rows=b.Rows.map f++t/\∀r,Dd (b.aI+1) r (f r)
def Vk (b:Book) (e:Event) (b':Book):Prop:=∃t:List Row,b'.Rows=b.Rows++t/\∀y∈t,y.dI=0/\y.Entry.From=e.Until
def J3 (e:Event) (n:Nat):Prop:=e.Vec.length<n/\e.Vec.length<2^62/\e.aM.length<n/\e.aM.length<2^62
def wR (e:Event) (n:Nat):Prop:=e.Vec.length<n/\e.Vec.length<2^62/\e.aM.length<n/\e.aM.length<2^62/\uZ e.Vec e.aM
def BP (n:Nat) (s:ak) (b:Book) (e:Event) (r:bn):Prop:=BI n s r.B/\(r.E=0->StepB b e r.B)
theorem sH {n:Nat} {s:ak} {b:Book} {e:Event} (h:BI n s b) {k:Int} (hk:k≠0):BP n s b e ⟨b,k⟩:=⟨h,fun h=>absurd h hk⟩
structure Bd (b:Book) (e:Event):Prop where
 c:e.aI=b.aI+1
 c2:e.aI<=2^30
 d:b.Day<=e.Day
theorem apG {n:Nat} {s:ak} {b:Book} {e:Event} (hb:BI n s b) (he:Bd b e) {v ver:Int} {k:Nat} {rows added:List Row} (h:CI n e b.Rows v k ver rows added) (hk:k<=65537) (hv0:v<=65538*b.aI) (hv:∀r∈b.Rows,r.Entry.ID=e.ID->r.Entry.fI<=v)
 (hlen:rows.length+added.length<=65536):BP n s b e ⟨⟨b.ak,e.aI,e.Day,([]++b.bO)++[e.Day],([]++rows)++added⟩,0⟩:=by
 obtain⟨f,hf,hd⟩:=h.f
 have hcl:=hb.commit
 have hc:=he.c
 have hc2:=he.c2
 have v2:=h.v2
 rw[List.nil_append,List.nil_append]
 refine⟨⟨hb.schema, ?_, ?_, ?_,fun r hr=> ?_,fun c c' h1 h2=> ?_, ?_, ?_⟩,fun _=>⟨hc,rfl,rfl,f,added,by show rows++added=_;rw[hf],fun r=>by rw[<-hc];exact hd r⟩⟩
 ·show e.aI=_
  rw[iP,List.length_singleton];omega
 ·show (b.bO++[e.Day]).length<=_
  rw[iP,List.length_singleton];omega
 ·show (rows++added).length<=_
  rw[iP];omega
 ·have hr':r∈rows++added:=hr
  show ROK n e.aI r
  rcases agj.1 hr' with hr'|hr'
  ·rw[hf] at hr'
   obtain⟨x,hx,rfl⟩:=ajQ.1 hr'
   obtain⟨g1,g2,g3⟩:=hb.row x hx
   rcases hd x with h1| ⟨h1,h2⟩
   ·rw[h1];exact⟨by omega,g2,by omega⟩
   ·rw[h2];exact⟨.inr ⟨by show 1<=e.aI;omega,ajN _⟩,g2,by show x.Entry.fI<=_;omega⟩
  ·obtain⟨a1,a2,a3,a4,a5⟩:=h.add r hr'
   exact⟨.inl a1,a2,by omega⟩
 ·have h2':c'<=b.bO.length+1:=by
   have:c'<=(b.bO++[e.Day]).length:=h2
   rw[iP,List.length_singleton] at this;exact this
  show lV (b.bO++[e.Day]) c<=lV (b.bO++[e.Day]) c'
  by_cases q:c'<=b.bO.length
  ·rw[Vi q,Vi (aav h1 q)];exact hb.mono c c' h1 q
  ·obtain rfl:c'=b.bO.length+1:=by omega
   rw[Vj]
   by_cases q2:c<=b.bO.length
   ·rw[Vi q2]
    have g1:=hb.mono c b.bO.length q2 (RS _)
    have g2:=hb.day
    have g3:=he.d
    omega
   ·obtain rfl:c=b.bO.length+1:=by omega
    rw[Vj];exact ajN _
 ·show lV (b.bO++[e.Day]) (b.bO++[e.Day]).length=e.Day
  rw[iP,List.length_singleton,Vj]
 ·show ((rows++added).map j5).Nodup
  have hkey:rows.map j5=b.Rows.map j5:=by
   rw[hf,aj1]
   refine al6 fun r _=> ?_
   show j5 (f r)=j5 r
   unfold j5
   rw[(hd r).entry]
  rw[afr,hkey,List.nodup_append]
  refine⟨hb.ER,h.ER,fun a ha c hc'=> ?_⟩
  obtain⟨x,hx,rfl⟩:=ajQ.1 ha
  obtain⟨y,hy,rfl⟩:=ajQ.1 hc'
  obtain⟨a1,a2,a3,a4,a5⟩:=h.add y hy
  intro hk
  have k1:=congrArg Prod.fst hk
  have k2:=congrArg Prod.snd hk
  simp only[j5] at k1 k2
  have:=hv x hx (by rw[k1];exact a3)
  omega
theorem J4 {n:Nat} {s:ak} {b:Book} {e:Event} {l:List Row} {to:List bS} {more:Entry} (hn:2^20<n) (hs:nE s n) (hb:BI n s b) (hl:l.length<=65536) (hlt:to.length=l.length) (hlr:∀r∈l,r∈b.Rows/\r.Entry.ID=e.ID)
 (hm:Bc more n/\(more.ID=0\/more.ID=e.ID)) (he:Bd b e):∃r:bn,uR n (b,(e,(l,(to,more))))=some r/\BP n s b e r/\(l=[]->r.E=0->∃t:List Row,r.B.Rows=b.Rows++t/\∀y∈t,y.dI=0/\y.Entry.From=more.From):=by
 have hcl:=hb.commit
 have Vl:=hb.rows
 have hc:=he.c
 have hc2:=he.c2
 have hdl:b.bO.length<2^30:=by omega
 have hc1:1<=e.aI:=by omega
 obtain⟨v,hv,hv0,hv1,hv2⟩:=apE (n:=n) (b:=b) (id:=e.ID) (V:=65538*b.aI) (by omega) (by omega) (fun r hr=>(hb.row r hr).2.2) (by omega)
 obtain⟨⟨ver,rows,added⟩,h1,hI⟩:=apD (b:=b) (e:=e) (to:=to) (more:=more) (kT:=b.Rows) (v:=v) hn hl hlt (fun r hr=>⟨(hb.row r (hlr r hr).1).2.1,(hlr r hr).2⟩) hc1 Vl hv0 (by omega) l.length 0 n v b.Rows [] (by omega) (by omega) ⟨⟨id,by simp,fun r=>.inl rfl⟩,ajN _,by omega,by simp,(fun r hr=>by cases hr),by simp⟩
 dsimp only at hI
 have hrl:=hI.length
 have hal:=hI.len
 have v1:=hI.v1
 have v2:=hI.v2
 have hnil:l=[]->added=[]/\rows=b.Rows:=by
  intro e0
  subst e0
  obtain⟨m,rfl⟩:∃m,n=m+1:=⟨n-1,by omega⟩
  rw[U6] at h1
  have h1':some ((v,(b.Rows,([]:List Row))))=some (ver,(rows,added)):=h1
  cases h1'
  exact⟨rfl,rfl⟩
 have fin:∀(qw:List Row) (k:Nat) (adt:Int),CI n e b.Rows v k adt rows qw->k<=65537->(l=[]->∀y∈qw,y.dI=0/\y.Entry.From=more.From)->∃r:bn,(bif decide ((Go.IntKind.wrap .i64 ((((rows.length:Nat):Int))+(((qw.length:Nat):Int))))> ((65536:Int))) then
       some ((⟨b,(2:Int)⟩:bn))
  else
   bif bJ (((0:Nat))+b.bO.length) 8 then
    bif bJ ((([]++b.bO).length)+([e.Day].length)) 8 then
     bif bJ (((0:Nat))+rows.length) 112 then
      bif bJ ((([]++rows).length)+qw.length) 112 then
       some ((⟨(⟨b.ak,e.aI,e.Day,([]++b.bO)++[e.Day],([]++rows)++qw⟩:Book),(0:Int)⟩:bn))
      else
       none
     else
      none
    else
     none
   else
    none)=some r/\BP n s b e r/\(l=[]->r.E=0->∃t:List Row,r.B.Rows=b.Rows++t/\∀y∈t,y.dI=0/\y.Entry.From=more.From):=by
  intro qw k adt k1 k2 k3
  have hl':=k1.len
  rw[ali (by omega)]
  refine gN (fun _=>fM ⟨sH hb (by decide),fun _ h=>absurd (show (2:Int)=0 from h) (by decide)⟩) (fun hx=> ?_)
  have hx':rows.length+qw.length<=65536:=by
   have:=of_decide_eq_false hx;omega
  refine EP (EP (EP (EP ?_ (by simp;omega)) (by simp;omega)) (by simp;omega)) (by simp;omega)
  exact fM ⟨apG hb he k1 k2 hv1 hv2 hx',fun h0 _=>⟨qw,by show ([]++rows)++qw=_;rw[List.nil_append,(hnil h0).2],k3 h0⟩⟩
 rw[an8]
 refine cu ⟨v,hv, ?_⟩
 refine cu ⟨_,h1, ?_⟩
 dsimp only
 have hw:IntKind.wrap .i64 (ver+(1:Int))=ver+1:=j4 (by omega) (by omega)
 rw[hw]
 refine gN (fun hid=> ?_) (fun _=>fin added l.length ver hI (by omega) (fun h0 y hy=>by rw[(hnil h0).1] at hy;cases hy))
 have apH:more.ID=e.ID:=hm.2.resolve_left (by simpa using hid)
 obtain⟨er,her⟩:=adl (n:=n) (s:=s) (e:=⟨more.ID,ver+(1:Int),more.bI,more.iW,more.From,more.To,more.jv,more.Vec,more.aM⟩) hs hm.1
 rw[hb.schema]
 refine cu ⟨er,her, ?_⟩
 refine gN (fun h0=>fM ⟨sH hb (by simpa using h0),fun _ h=>absurd h (by simpa using h0)⟩) (fun _=> ?_)
 refine EP ?_ (by simp;omega)
 have:=fin (added++[(⟨(⟨more.ID,ver+(1:Int),more.bI,more.iW,more.From,more.To,more.jv,more.Vec,more.aM⟩:Entry),(0:Int)⟩:Row)]) (l.length+1) (ver+1) (hI.push rfl hm.1 apH rfl) (by omega) (fun h0 y hy=>by
  rw[(hnil h0).1,List.nil_append,adu] at hy
  rw[hy];exact⟨rfl,rfl⟩)
 rw[hb.schema] at this
 exact this
theorem apI {n:Nat} {s:ak} {b:Book} {e:Event} (hn:2^20<n) (hs:nE s n) (hb:BI n s b) (he:wR e n) (hv:Bd b e):∃r:bn,Eh n (b,e)=some r/\BP n s b e r/\(r.E=0->Vk b e r.B):=by
 have hr:=hb.rows
 obtain⟨h,hh⟩:=apg (n:=n) (b:=b) (d:=e.ID) (by omega) (by omega)
 rw[an9]
 refine cu ⟨h,hh, ?_⟩
 refine gN (fun _=>fM ⟨sH hb (by decide),fun h=>absurd (show (6:Int)=0 from h) (by decide)⟩) (fun _=> ?_)
 obtain⟨er,her⟩:=adl (n:=n) (s:=s) (e:=⟨e.ID,(1:Int),e.bI,e.Day,e.Until,(1048577:Int),e.aI,e.Vec,e.aM⟩) hs he
 rw[hb.schema]
 refine cu ⟨er,her, ?_⟩
 refine gN (fun h0=>fM ⟨sH hb (by simpa using h0),fun h=>absurd h (by simpa using h0)⟩) (fun _=> ?_)
 obtain⟨r,h1,h2,h3⟩:=J4 (l:=[]) (to:=[]) (more:=⟨e.ID,(1:Int),e.bI,e.Day,e.Until,(1048577:Int),e.aI,e.Vec,e.aM⟩) hn hs hb (by simp) rfl (by simp) ⟨he,.inr rfl⟩ hv
 exact cu ⟨r,h1,fM ⟨h2,fun h=>h3 rfl h⟩⟩
theorem Vm {n:Nat} {l:List Row} (h:l≠[]) (hb:l.length<2^62):∃x:Int,uS n l=some x:=by
 have hp:0<l.length:=ajm.2 h
 obtain⟨x,hx,_⟩:=yE (l:=l) (i:=l.length-1) (by omega)
 exact⟨x.Entry.To,by rw[aob,HZ hp hb];exact bs hx rfl⟩
theorem Vn {L:Nat->List bS->Int->Option (List bS)} {l:List Row} (hl:l.length<=65536) (hs:∀m (i:Nat) (acc:List bS),i<l.length->acc.length=i->∃d,L (m+1) acc (i:Int)=L m (acc++[d]) ((i+1:Nat):Int)) (hf:∀m acc,L (m+1) acc ((l.length:Nat):Int)=some acc) {n:Nat} (hn:l.length<n):∃to:List bS,L n [] (0:Int)=some to/\to.length=l.length:=by
 have key:∀(k i m:Nat) (acc:List bS),i+k=l.length->k<m->acc.length=i->∃to:List bS,L m acc (i:Int)=some to/\to.length=l.length:=by
  intro k
  induction k with
  |zero=>
   intro i m acc hi hm ha
   obtain⟨m,rfl⟩:∃m',m=m'+1:=⟨m-1,by omega⟩
   obtain rfl:i=l.length:=by omega
   exact⟨acc,hf _ _,ha⟩
  |succ k ih=>
   intro i m acc hi hm ha
   obtain⟨m,rfl⟩:∃m',m=m'+1:=⟨m-1,by omega⟩
   obtain⟨d,hd⟩:=hs m i acc (by omega) ha
   rw[hd]
   exact ih (i+1) m _ (by omega) (by omega) (by simp[ha])
 exact key l.length 0 n [] (by omega) hn rfl
theorem Vo {n:Nat} (hn:2^20<n):Bc (⟨(0:Int),(0:Int),(0:Int),(0:Int),(0:Int),(0:Int),(0:Int),[],[]⟩:Entry) n:=⟨by simp;omega,by simp,by simp;omega,by simp,by simp,by simp,fun x hx=>absurd hx List.not_mem_nil⟩
theorem apJ {n:Nat} {s:ak} {b:Book} {e:Event} {l:List Row} (hn:2^20<n) (hs:nE s n) (hb:BI n s b) (he:wR e n) (hv:Bd b e) (hne:l≠[]) (hl:l.length<=65536) (hlr:∀r∈l,r∈b.Rows/\r.Entry.ID=e.ID):∃r:bn,wG n (b,(e,l))=some r/\BP n s b e r:=by
 have hp:0<l.length:=ajm.2 hne
 obtain⟨x,hx,hxm⟩:=yE (l:=l) (i:=0) hp
 obtain⟨t,ht⟩:=Vm (n:=n) hne (by omega)
 obtain⟨t',ht'⟩:=EO (c:= !(decide (e.From< ((0:Int))))) (o:=uS n l) (d:=(0:Int)) (fun _=>⟨t,ht⟩)
 obtain⟨to,h1,h2⟩:=Vn (L:=fun m acc i=>AP n b e l x m (acc,i)) (n:=n) hl (fun m i acc hi ha=>by
  obtain⟨y,hy,_⟩:=yE (l:=l) (i:=i) hi
  refine⟨⟨y.Entry.From,rM y.Entry.To (imax (imax e.From x.Entry.From) y.Entry.From)⟩, ?_⟩
  show AP n b e l x (m+1) (acc,(i:Int))=_
  rw[acU,decide_eq_true (by omega),cond_true]
  refine bs hy ?_
  rw[fE (by omega)];exact Nb (by simp;omega))
  (fun m acc=>by
    show AP n b e l x (m+1) (acc,((l.length:Nat):Int))=_
    rw[acU,Ab];rfl) (by omega)
 obtain⟨r,h3,h4,_⟩:=J4 (l:=l) (to:=to) (more:=⟨x.Entry.ID,x.Entry.fI,x.Entry.bI,x.Entry.iW,imax e.From x.Entry.From,t,e.aI,e.Vec,e.aM⟩) hn hs hb hl h2 hlr ⟨he,.inr (hlr x hxm).2⟩ hv
 rw[aoc]
 refine cu ⟨x,hx, ?_⟩
 refine cu ⟨t',ht', ?_⟩
 refine gN (fun _=>fM (sH hb (by decide))) (fun _=> ?_)
 refine cu ⟨to,h1, ?_⟩
 refine cu ⟨x,hx, ?_⟩
 refine cu ⟨t,ht, ?_⟩
 exact cu ⟨r,h3,fM h4⟩
theorem apK {n:Nat} {s:ak} {b:Book} {e:Event} {l:List Row} (hn:2^20<n) (hs:nE s n) (hb:BI n s b) (hv:Bd b e) (hne:l≠[]) (hl:l.length<=65536) (hlr:∀r∈l,r∈b.Rows/\r.Entry.ID=e.ID):∃r:bn,wH n (b,(e,l))=some r/\BP n s b e r:=by
 obtain⟨t,ht⟩:=Vm (n:=n) hne (by omega)
 obtain⟨to,h1,h2⟩:=Vn (L:=fun m acc i=>AQ n b e l m (acc,i)) (n:=n) hl (fun m i acc hi ha=>by
  obtain⟨y,hy,_⟩:=yE (l:=l) (i:=i) hi
  refine⟨⟨y.Entry.From,rM y.Entry.To (imax e.From y.Entry.From)⟩, ?_⟩
  show AQ n b e l (m+1) (acc,(i:Int))=_
  rw[acV,decide_eq_true (by omega),cond_true]
  refine bs hy ?_
  rw[fE (by omega)];exact Nb (by simp;omega))
  (fun m acc=>by
    show AQ n b e l (m+1) (acc,((l.length:Nat):Int))=_
    rw[acV,Ab];rfl) (by omega)
 obtain⟨r,h3,h4,_⟩:=J4 (l:=l) (to:=to) hn hs hb hl h2 hlr ⟨Vo hn,.inl rfl⟩ hv
 rw[aod]
 refine gN (fun _=> ?_) (fun _=>fM (sH hb (by decide)))
 refine cu ⟨t,ht, ?_⟩
 refine gN (fun _=>fM (sH hb (by decide))) (fun _=> ?_)
 refine cu ⟨to,h1, ?_⟩
 exact cu ⟨r,h3,fM h4⟩
theorem apL {n:Nat} {s:ak} {b:Book} {e:Event} {l:List Row} (hn:2^20<n) (hs:nE s n) (hb:BI n s b) (hv:Bd b e) (hne:l≠[]) (hl:l.length<=65536) (hlr:∀r∈l,r∈b.Rows/\r.Entry.ID=e.ID):∃r:bn,wI n (b,(e,l))=some r/\BP n s b e r:=by
 have hp:0<l.length:=ajm.2 hne
 obtain⟨x,hx,hxm⟩:=yE (l:=l) (i:=0) hp
 obtain⟨t,ht⟩:=Vm (n:=n) hne (by omega)
 obtain⟨to,h1,h2⟩:=Vn (L:=fun m acc i=>yY n b e l x m (acc,i)) (n:=n) hl (fun m i acc hi ha=>by
  obtain⟨y,hy,_⟩:=yE (l:=l) (i:=i) hi
  refine⟨bif bif (i:Int)==((0:Int)) then decide (e.Until<x.Entry.From) else false then ⟨e.Until,y.Entry.To⟩ else ⟨imax y.Entry.From (rM e.Until y.Entry.To),y.Entry.To⟩, ?_⟩
  show yY n b e l x (m+1) (acc,(i:Int))=_
  rw[acW,decide_eq_true (by omega),cond_true]
  refine bs hy ?_
  cases (bif (i:Int)==((0:Int)) then decide (e.Until<x.Entry.From) else false)
  ·rw[cond_false,cond_false,fE (by omega)];exact Nb (by simp;omega)
  ·rw[cond_true,cond_true,fE (by omega)];exact Nb (by simp;omega))
  (fun m acc=>by
    show yY n b e l x (m+1) (acc,((l.length:Nat):Int))=_
    rw[acW,Ab];rfl) (by omega)
 obtain⟨r,h3,h4,_⟩:=J4 (l:=l) (to:=to) hn hs hb hl h2 hlr ⟨Vo hn,.inl rfl⟩ hv
 rw[aoe]
 refine cu ⟨x,hx, ?_⟩
 refine gN (fun _=>fM (sH hb (by decide))) (fun _=> ?_)
 refine gN (fun _=> ?_) (fun _=>fM (sH hb (by decide)))
 refine cu ⟨t,ht, ?_⟩
 refine gN (fun _=>fM (sH hb (by decide))) (fun _=> ?_)
 refine cu ⟨to,h1, ?_⟩
 exact cu ⟨r,h3,fM h4⟩
theorem PO {n:Nat} {s:ak} {b:Book} {e:Event} (hn:2^20<n) (hs:nE s n) (hb:BI n s b) (he:wR e n):∃r:bn,Aw n (b,e)=some r/\BP n s b e r/\(r.E=0->e.Kind=1->Vk b e r.B):=by
 have hcl:=hb.commit
 have Vl:=hb.rows
 have hdl:=hb.days
 rw[aof]
 refine gN (fun _=>fM ⟨sH hb (by decide),fun h=>absurd (show (9:Int)=0 from h) (by decide)⟩) (fun hcond=> ?_)
 have hw:IntKind.wrap .i64 (b.aI+(1:Int))=b.aI+1:=by rw[hcl,IntKind.wrap_i64];omega
 rw[hw] at hcond
 have hc:e.aI=b.aI+1:=by
  by_cases c:e.aI=b.aI+1
  ·exact c
  ·rw[bne_iff_ne.2 c] at hcond;simp at hcond
 have hc2:e.aI<=2^30:=by
  by_cases c:e.aI> (1073741824:Int)
  ·rw[decide_eq_true c] at hcond
   cases h:(e.aI !=b.aI+1)<;>rw[h] at hcond<;>simp at hcond
  ·omega
 have hdd:b.Day<=e.Day:=by
  by_cases c:e.Day<b.Day
  ·rw[decide_eq_true c] at hcond
   cases h:(e.aI !=b.aI+1)<;>rw[h] at hcond
   ·cases h':decide (e.aI> (1073741824:Int))<;>rw[h'] at hcond<;>simp at hcond
   ·simp at hcond
  ·omega
 have hv:Bd b e:=⟨hc,hc2,hdd⟩
 obtain⟨l,hl1,hl2,hl3⟩:=apB (n:=n) (b:=b) (id:=e.ID) (by omega) (by omega)
 have err:∀k:Int,k≠0->∃r:bn,some ((⟨b,k⟩:bn))=some r/\BP n s b e r:=fun k hk=>fM (sH hb hk)
 have live:∃r:bn,((wF n ((b,e.ID))).bind fun (r5:List Row)=>
          bif (((r5.length:Nat):Int))==((0:Int)) then
           some ((⟨b,(5:Int)⟩:bn))
          else
           bif e.Kind==((2:Int)) then
            (wG n ((b,(e,r5)))).bind fun (r6:bn)=>
            some r6
           else
            bif e.Kind==((3:Int)) then
             (wH n ((b,(e,r5)))).bind fun (r7:bn)=>
             some r7
            else
             (wI n ((b,(e,r5)))).bind fun (r8:bn)=>
             some r8)=some r/\BP n s b e r:=by
  refine cu ⟨l,hl1, ?_⟩
  refine gN (fun _=>err 5 (by decide)) (fun hne=> ?_)
  have hne':l≠[]:=by rintro rfl;simp at hne
  have Vp:l.length<=65536:=aav hl2 Vl
  refine gN (fun _=> ?_) (fun _=>gN (fun _=> ?_) (fun _=> ?_))
  ·obtain⟨r,h1,h2⟩:=apJ hn hs hb he hv hne' Vp hl3
   exact cu ⟨r,h1,fM h2⟩
  ·obtain⟨r,h1,h2⟩:=apK hn hs hb hv hne' Vp hl3
   exact cu ⟨r,h1,fM h2⟩
  ·obtain⟨r,h1,h2⟩:=apL hn hs hb hv hne' Vp hl3
   exact cu ⟨r,h1,fM h2⟩
 have nk:∀{o:Option bn},(e.Kind==(1:Int))=false->(∃r:bn,o=some r/\BP n s b e r)->∃r:bn,o=some r/\BP n s b e r/\(r.E=0->e.Kind=1->Vk b e r.B):=fun hk ⟨r,h1,h2⟩=>⟨r,h1,h2,fun _ h3=>by rw[h3] at hk;simp at hk⟩
 refine gN (fun _=> ?_) (fun hk=>nk hk (gN (fun _=> ?_) (fun _=>gN (fun _=>live) (fun _=>gN (fun _=>live) (fun _=>gN (fun _=>live) (fun _=>err 1 (by decide)))))))
 ·obtain⟨r,h1,h2,h3⟩:=apI hn hs hb he hv
  exact cu ⟨r,h1,fM ⟨h2,fun h _=>h3 h⟩⟩
 ·obtain⟨r,h1,h2,_⟩:=J4 (l:=[]) (to:=[]) hn hs hb (by simp) rfl (by simp) ⟨Vo hn,.inl rfl⟩ hv
  exact cu ⟨r,h1,fM h2⟩
end Sh
end
section
open Go Go.Proofs Aq
namespace Sh
def iK (n:Nat):Book->List Event->Book->Prop
 |b,[],b'=>b'=b
 |b,e::l,b'=> ∃r:bn,Aw n (b,e)=some r/\r.E=0/\iK n r.B l b'
theorem iK.Vq {n:Nat}:∀{l:List Event} {b b1 b2:Book},iK n b l b1->iK n b l b2->b1=b2
 | [],b,b1,b2,h1,h2=>by
   have h1:b1=b:=h1
   have h2:b2=b:=h2
   rw[h1,h2]
 |e::l,b,b1,b2,⟨r1,a1,_,c1⟩,⟨r2,a2,_,c2⟩=>by
  rw[a1] at a2
  cases a2
  exact iK.Vq c1 c2
theorem iK.split {n:Nat}:∀{l1 l2:List Event} {b b':Book},iK n b (l1++l2) b'->∃bm,iK n b l1 bm/\iK n bm l2 b'
 | [],l2,b,b',h=>⟨b,rfl,h⟩
 |e::l1,l2,b,b',⟨r,a,c,d⟩=>by
  obtain⟨bm,h1,h2⟩:=iK.split d
  exact⟨bm,⟨r,a,c,h1⟩,h2⟩
structure Later (a b:Book):Prop where
 c:a.aI<=b.aI
 days:∃t,b.bO=a.bO++t
 rows:∃(f:Row->Row) (t:List Row),b.Rows=a.Rows.map f++t/\∀r,f r=r\/(r.dI=0/\∃c,a.aI<c/\f r=⟨r.Entry,c⟩)
theorem Later.refl (a:Book):Later a a:=⟨ajN _,⟨[],by simp⟩,id,[],by simp,fun r=>.inl rfl⟩
theorem Later.trans {a b c:Book} (h0:0<=a.aI) (h:Later a b) (g:Later b c):Later a c:=by
 obtain⟨h1,⟨t,h2⟩,f,u,h3,h4⟩:=h
 obtain⟨g1,⟨t',g2⟩,f',u',g3,g4⟩:=g
 refine⟨Int.le_trans h1 g1,⟨t++t',by rw[g2,h2,acF]⟩,fun r=>f' (f r),u.map f'++u',by rw[g3,h3,afr,aj1,acF];rfl,fun r=> ?_⟩
 rcases h4 r with e| ⟨e1,k,e2,e3⟩
 ·rcases g4 r with e'| ⟨yt,k',e2',e3'⟩
  ·left;show f' (f r)=r;rw[e,e']
  ·right;exact⟨yt,k',by omega,by show f' (f r)=_;rw[e,e3']⟩
 ·right
  rcases g4 (f r) with e'| ⟨yt,_⟩
  ·exact⟨e1,k,e2,by show f' (f r)=_;rw[e',e3]⟩
  ·rw[e3] at yt
   have:k=0:=yt
   omega
theorem StepB.later {b b':Book} {e:Event} (h:StepB b e b'):Later b b':=by
 obtain⟨h1,h2,h3,f,t,h4,h5⟩:=h
 refine⟨by omega,⟨[e.Day],h3⟩,f,t,h4,fun r=> ?_⟩
 rcases h5 r with g| ⟨g1,g2⟩
 ·exact .inl g
 ·exact .inr ⟨g1,b.aI+1,by omega,g2⟩
theorem iK.ok {n:Nat} {s:ak} (hn:2^20<n) (hs:nE s n):∀{l:List Event} {b b':Book},BI n s b->(∀e∈l,wR e n)->iK n b l b'->BI n s b'/\Later b b'
 | [],b,b',hb,_,h=>by
   have h:b'=b:=h
   subst h
   exact⟨hb,.refl _⟩
 |e::l,b,b',hb,he,⟨r,h1,h2,h3⟩=>by
  obtain⟨r',g1,⟨g2,g3⟩,_⟩:=PO hn hs hb (he e (adg ..))
  rw[h1] at g1
  cases g1
  obtain⟨k1,k2⟩:=iK.ok hn hs g2 (fun x hx=>he x (adF _ hx)) h3
  have hc:=hb.commit
  exact⟨k1,(g3 h2).later.trans (by omega) k2⟩
def book0 (s:ak):Book:=⟨s,0,0,[],[]⟩
theorem PS (n:Nat) (s:ak):BI n s (book0 s):=by
 refine⟨rfl,rfl,by simp[book0],by simp[book0],(fun r hr=>by cases hr),fun c c' h1 h2=> ?_,rfl,by simp[book0]⟩
 have h2':c'<=0:=h2
 obtain rfl:c'=0:=by omega
 obtain rfl:c=0:=by omega
 exact ajN _
def y5 (n:Nat) (s:ak):Prop:=yJ n s=some ⟨book0 s,0⟩
theorem apM {n:Nat} {s:ak} (hn:2^20<n) (hs:nE s n):y5 n s\/∃nw:bn,yJ n s=some nw/\nw.E≠0:=by
 obtain⟨e0,he0⟩:=apc hs (by omega)
 have e:yJ n s=_:=(anZ n s).trans (bs he0 rfl)
 cases h:(e0 !=(0:Int))
 ·rw[h] at e;exact .inl e
 ·rw[h] at e;exact .inr ⟨_,e,by simpa using h⟩
theorem apN {n:Nat} {s:ak} {l:List Event} (hn:2^20<n) (hs:nE s n) (hl:l.length<n) (hb:l.length<2^62) (he:∀e∈l,wR e n):∃f:eF,Ei n (s,l)=some f/\(f.E=0->y5 n s/\iK n (book0 s) l f.B)/\(y5 n s->∀b,iK n (book0 s) l b->f.E=0/\f.B=b):=by
 have key:∀(k i m:Nat) (f:eF) (bk:bn),i+k=l.length->k<m->bk.E=0->BI n s bk.B->∃q:(PUnit×eF×bn)⊕(PUnit×eF),EC n l m ((i:Int),(f,bk))=some q/\(match q with
  |.inl q=>q.2.2.E=0/\iK n bk.B (l.drop i) q.2.2.B
  |.inr q=>q.2.E≠0/\∀b,¬iK n bk.B (l.drop i) b):=by
  intro k
  induction k with
  |zero=>
   intro i m f bk hi hm hz hB
   obtain⟨m,rfl⟩:∃m',m=m'+1:=⟨m-1,by omega⟩
   refine⟨.inl ((),(f,bk)),by rw[U7,decide_eq_false (by omega)];rfl,hz, ?_⟩
   rw[al8 (by omega)];rfl
  |succ k ih=>
   intro i m f bk hi hm hz hB
   obtain⟨m,rfl⟩:∃m',m=m'+1:=⟨m-1,by omega⟩
   have hlt:i<l.length:=by omega
   have hx:l[i]? =some l[i]:=acR hlt
   obtain⟨r,h1,⟨h2,h3⟩,_⟩:=PO hn hs hB (he _ (aed hlt))
   rw[al2 hlt,U7,decide_eq_true (by omega),hz]
   refine cu ⟨_,fC hx, ?_⟩
   refine cu ⟨r,h1, ?_⟩
   refine gN (fun hE=>fM ⟨by simpa using hE, ?_⟩) (fun hE=> ?_)
   ·rintro b ⟨r',a1,a2,_⟩
    rw[h1] at a1
    cases a1
    rw[a2] at hE;simp at hE
   ·have hE':r.E=0:=by simpa using hE
    rw[fE (by omega)]
    obtain⟨q,q1,q2⟩:=ih (i+1) m f r (by omega) (by omega) hE' h2
    refine⟨q,q1, ?_⟩
    cases q with
    |inl q=>exact⟨q2.1,r,h1,hE',q2.2⟩
    |inr q=>
     refine⟨q2.1, ?_⟩
     rintro b ⟨r',a1,a2,a3⟩
     rw[h1] at a1
     cases a1
     exact q2.2 b a3
 rw[aog]
 rcases apM hn hs with hnw| ⟨nw,hnw,hE⟩
 ·obtain⟨q,h1,h2⟩:=key l.length 0 n ⟨⟨⟨0,0,[]⟩,0,0,[],[]⟩,0,0⟩ ⟨book0 s,0⟩ (by omega) hl rfl (PS n s)
  refine cu ⟨_,hnw, ?_⟩
  refine cu ⟨q,h1, ?_⟩
  cases q with
  |inl q=>
   have h2':iK n (book0 s) l q.2.2.B:=h2.2
   refine gN (fun hz=> ?_) (fun hz=>fM ⟨fun _=>⟨hnw,h2'⟩,fun _ b hb=>⟨rfl,iK.Vq h2' hb⟩⟩)
   rw[h2.1] at hz;simp at hz
  |inr q=>exact fM ⟨fun h=>absurd h h2.1,fun _ b hb=>absurd hb (h2.2 b)⟩
 ·have hq:EC n l n ((0:Int),((⟨⟨⟨0,0,[]⟩,0,0,[],[]⟩,0,0⟩:eF),nw))=some (.inl ((),(⟨⟨⟨0,0,[]⟩,0,0,[],[]⟩,0,0⟩,nw))):=by
   obtain⟨m,rfl⟩:∃m,n=m+1:=⟨n-1,by omega⟩
   rw[U7]
   have e1:(nw.E==(0:Int))=false:=by simpa using hE
   rw[e1]
   cases decide ((0:Int)< ((l.length:Nat):Int))<;>rfl
  refine cu ⟨_,hnw, ?_⟩
  refine cu ⟨_,hq, ?_⟩
  have hno:¬y5 n s:=fun h=>by
   unfold y5 at h
   rw[hnw] at h
   cases h
   exact hE rfl
  refine gN (fun hz=>fM ⟨fun h=>absurd h hE,fun h=>absurd h hno⟩) (fun hz=> ?_)
  have:nw.E=0:=by simpa using hz
  exact absurd this hE
theorem Vr {n:Nat} {s:ak} {l:List Event} (hn:2^20<n) (hs:nE s n) (hl:l.length<n) (hb:l.length<2^62) (he:∀e∈l,J3 e n):∃q:Book×Bool,qV n (s,l)=some q/\(q.2=true->y5 n s/\iK n (book0 s) l q.1/\∀e∈l,wR e n)/\(y5 n s->∀b,iK n (book0 s) l b->q.1=b\/q.1.Rows=[]):=by
 obtain⟨b1,h1⟩:=apf (n:=n) (l:=l) (k:=25) ⟨hl,hb,fun x hx=>⟨(he x hx).2.2.1,(he x hx).2.2.2⟩⟩
 obtain⟨b2,h2⟩:=EO (c:= !(!b1)) (o:=Am n (s,(6:Int))) (d:=false) (fun _=>apd hs)
 rw[aoh]
 refine cu ⟨b1,h1, ?_⟩
 refine cu ⟨b2,h2, ?_⟩
 refine gN (fun _=>fM ⟨(fun h=>by cases h),fun _ b _=>.inr rfl⟩) (fun hc=> ?_)
 have hb1:b1=true:=by cases b1<;>simp at hc⊢
 rw[hb1] at h1
 have ht:=apn hb (fun e h=>(he e h).2.2.2) h1
 have hev:∀e∈l,wR e n:=fun e h=>⟨(he e h).1,(he e h).2.1,(he e h).2.2.1,(he e h).2.2.2,ht e h⟩
 obtain⟨f,f1,f2,f3⟩:=apN hn hs hl hb hev
 refine cu ⟨f,f1,fM ⟨fun h=> ?_,fun ho b hr=>.inl (f3 ho b hr).2⟩⟩
 obtain⟨g1,g2⟩:=f2 (by simpa using h)
 exact⟨g1,g2,hev⟩
end Sh
end
section
open Go Go.Proofs Aq
namespace Sh
def sI (b:Book) (r:Row):Nat:=if r.dI>0 then (r.dI-1).toNat else b.aI.toNat
def jH (b:Book) (r:Row):Bool:=decide (r.Entry.From<=lV b.bO (sI b r))
theorem apO {n:Nat} {b:Book} {c:Nat} (h:c<=b.bO.length) (hb:b.bO.length<=2^30):Ay n (b,(c:Int))=some (lV b.bO c):=by
 rw[aoi]
 cases c with
 |zero=>rfl
 |succ c=>
  have hx:b.bO[c]? =some b.bO[c]:=acR (by omega)
  have hw:IntKind.wrap .i64 (((c+1:Nat):Int)-(1:Int))=((c:Nat):Int):=by
   have:=HZ (i:=c+1) (by omega) (by omega)
   simpa using this
  have e:(((c+1:Nat):Int)==(0:Int))=false:=by simp;omega
  rw[e,cond_false,hw]
  refine bs (fC hx) ?_
  unfold lV
  rw[if_neg (by omega),adH,show c+1-1=c by omega,hx];rfl
theorem PU {n:Nat} {s:ak} {b:Book} (hb:BI n s b) {r:Row} (hr:r∈b.Rows):sI b r<=b.bO.length:=by
 have hc:=hb.commit
 have:=(hb.row r hr).1
 unfold sI
 split<;>omega
theorem apP {n:Nat} {s:ak} {b:Book} (hb:BI n s b) {r:Row} (hr:r∈b.Rows):Az n (b,r)=some (jH b r):=by
 have hc:=hb.commit
 have hd:=(hb.row r hr).1
 have hl:=PU hb hr
 have h30:=hb.days
 have key:=apO (n:=n) hl h30
 unfold jH
 unfold sI at key hl⊢
 rw[aoj]
 by_cases h:r.dI>0
 ·rw[if_pos h] at key hl
  rw[decide_eq_true h,cond_true,if_pos h]
  have hw:IntKind.wrap .i64 (r.dI-(1:Int))=(((r.dI-1).toNat:Nat):Int):=by rw[j4 (by omega) (by omega)];omega
  rw[hw]
  exact bs key rfl
 ·rw[if_neg h] at key hl
  rw[decide_eq_false h,cond_false,if_neg h]
  have hw:b.aI=((b.aI.toNat:Nat):Int):=by omega
  rw[<-hw] at key
  exact bs key rfl
theorem adv {n:Nat} {b:Book} {p:Row->Bool} (hl:b.Rows.length<=65536) (hp:∀r∈b.Rows,Az n (b,r)=some (p r)):∀(k i m:Nat) (x y:List Row),i+k=b.Rows.length->k<m->x.length<=i->y.length<=i->
 ED n b.Rows b.ak.gq b.ak.gY b.ak.Defs b.aI b.Day b.bO b.Rows m (x,(y,(i:Int)))=some (x++(b.Rows.drop i).filter p,y++(b.Rows.drop i).filter fun r=> !p r):=by
 intro k
 induction k with
 |zero=>
  intro i m x y hi hm hx hy
  obtain⟨m,rfl⟩:∃m',m=m'+1:=⟨m-1,by omega⟩
  rw[acX,decide_eq_false (by omega),al8 (by omega)]
  simp
 |succ k ih=>
  intro i m x y hi hm hx hy
  obtain⟨m,rfl⟩:∃m',m=m'+1:=⟨m-1,by omega⟩
  have hlt:i<b.Rows.length:=by omega
  have hg:b.Rows[i]? =some b.Rows[i]:=acR hlt
  have hp':=hp _ (aed hlt)
  rw[acX,jM hg,cond_true,al2 hlt]
  refine bs (fC hg) ?_
  have h1:Ej n (b.Rows[i],(b.ak.gq,(b.ak.gY,(b.ak.Defs,(b.aI,(b.Day,(b.bO,b.Rows)))))))=some (p b.Rows[i]):=(aok n _ _ _ _ _ _ _ _).trans (bs hp' rfl)
  refine bs h1 ?_
  rw[fE (by omega)]
  cases hv:p b.Rows[i]
  ·refine bF rfl (bT (uO (by simp;omega) (by omega)) ?_)
   rw[ih (i+1) m x (y++[b.Rows[i]]) (by omega) (by omega) (by omega) (by simp;omega),aoQ (by simp[hv]),aoS (by simp[hv]),acF];rfl
  ·refine bT rfl (bT (uO (by simp;omega) (by omega)) ?_)
   rw[ih (i+1) m (x++[b.Rows[i]]) y (by omega) (by omega) (by simp;omega) (by omega),aoS (by simp[hv]),aoQ (by simp[hv]),acF];rfl
theorem adw {n:Nat} {l:List Row} (hl:l.length<=65536):∀(k i m:Nat) (x y:List Row),i+k=l.length->k<m->x.length<=i->y.length<=i->
 EF n l m (x,(y,(i:Int)))=some (x++(l.drop i).filter fun r=>r.dI==(0:Int),y++(l.drop i).filter fun r=> !(r.dI==(0:Int))):=by
 intro k
 induction k with
 |zero=>
  intro i m x y hi hm hx hy
  obtain⟨m,rfl⟩:∃m',m=m'+1:=⟨m-1,by omega⟩
  rw[acZ,decide_eq_false (by omega),al8 (by omega)]
  simp
 |succ k ih=>
  intro i m x y hi hm hx hy
  obtain⟨m,rfl⟩:∃m',m=m'+1:=⟨m-1,by omega⟩
  have hlt:i<l.length:=by omega
  have hg:l[i]? =some l[i]:=acR hlt
  rw[acZ,jM hg,cond_true,al2 hlt]
  refine bs (fC hg) ?_
  refine bs (aol n _) ?_
  rw[fE (by omega)]
  cases hv:(l[i].dI==(0:Int))
  ·refine bF rfl (bT (uO (by simp;omega) (by omega)) ?_)
   rw[ih (i+1) m x (y++[l[i]]) (by omega) (by omega) (by omega) (by simp;omega),aoQ (by simp[hv]),aoS (by simp[hv]),acF];rfl
  ·refine bT rfl (bT (uO (by simp;omega) (by omega)) ?_)
   rw[ih (i+1) m (x++[l[i]]) y (by omega) (by omega) (by simp;omega) (by omega),aoS (by simp[hv]),aoQ (by simp[hv]),acF];rfl
def nW (b:Book):List Row:=b.Rows.filter (jH b)
def y7 (b:Book):List Row:=(b.Rows.filter fun r=> !jH b r).filter fun r=>r.dI==(0:Int)
theorem Vs {n:Nat} {s:ak} {b:Book} (hn:2^20<n) (hb:BI n s b):qp n b=some (nW b,y7 b):=by
 have PV:=hb.rows
 have hf:(b.Rows.filter fun r=> !jH b r).length<=b.Rows.length:=List.length_filter_le _ _
 have h1:=adv (n:=n) PV (fun r hr=>apP hb hr) b.Rows.length 0 n [] [] (by omega) (by omega) (RS _) (RS _)
 have h2:=adw (n:=n) (l:=b.Rows.filter fun r=> !jH b r) (by omega) (b.Rows.filter fun r=> !jH b r).length 0 n [] [] (by omega) (by omega) (RS _) (RS _)
 rw[List.nil_append,List.nil_append,al9] at h1 h2
 rw[ac1]
 refine bs (a:=(nW b,b.Rows.filter fun r=> !jH b r)) ((acY n _ _ _ _ _ _ _ _).trans (bs h1 rfl)) ?_
 exact bs (a:=(y7 b,(b.Rows.filter fun r=> !jH b r).filter fun r=> !(r.dI==(0:Int)))) ((ac0 n _).trans (bs h2 rfl)) rfl
theorem apQ {n:Nat} {b:Book} (hn:2^20<n) (hb:b.Rows=[]):qp n b=some ([],[]):=by
 have h1:=adv (n:=n) (b:=b) (p:=fun _=>true) (by rw[hb];simp) (fun r hr=>by rw[hb] at hr;cases hr) 0 0 n [] [] (by rw[hb];rfl) (by omega) (RS _) (RS _)
 have h2:=adw (n:=n) (l:=[]) (by simp) 0 0 n [] [] rfl (by omega) (RS _) (RS _)
 rw[hb] at h1
 rw[ac1,hb]
 refine bs (a:=(([]:List Row),([]:List Row))) ((acY n _ _ _ _ _ _ _ _).trans (bs h1 rfl)) ?_
 exact bs (a:=(([]:List Row),([]:List Row))) ((ac0 n _).trans (bs h2 rfl)) rfl
theorem apR {n:Nat} {e:Entry} (h:uZ e.Vec e.aM) (hn:2^20<n):yK n (e,e)=some true:=by
 obtain⟨r,hr,_⟩:=adp (n:=n) h hn
 rw[ac5]
 exact bs hr (bs hr (by simp))
theorem apS {n:Nat} {l:List Row} {e:Entry} (hn:2^20<n) (hl:l.length<=65536) (ht:uZ e.Vec e.aM) (hu:∀r∈l,j5 r=(e.ID,e.fI)->r.Entry=e):nC n (l,e)=some (l.any fun r=>decide (j5 r=(e.ID,e.fI))):=by
 have key:∀(k i m:Nat),i+k=l.length->k<m->AV n l e m (i:Int)=some (bif (l.drop i).any fun r=>decide (j5 r=(e.ID,e.fI)) then .inr true else .inl ()):=by
  intro k
  induction k with
  |zero=>
   intro i m hi hm
   obtain⟨m,rfl⟩:∃m',m=m'+1:=⟨m-1,by omega⟩
   rw[ac6,decide_eq_false (by omega),al8 (by omega)];rfl
  |succ k ih=>
   intro i m hi hm
   obtain⟨m,rfl⟩:∃m',m=m'+1:=⟨m-1,by omega⟩
   have hlt:i<l.length:=by omega
   have hg:l[i]? =some l[i]:=acR hlt
   have hmem:=aed hlt
   rw[ac6,jM hg,cond_true,al2 hlt,fE (by omega),List.any_cons]
   refine bs (fC hg) ?_
   have nx:decide (j5 l[i]=(e.ID,e.fI))=false->AV n l e m ((i+1:Nat):Int)=some (bif decide (j5 l[i]=(e.ID,e.fI))||(l.drop (i+1)).any fun r=>decide (j5 r=(e.ID,e.fI)) then .inr true else .inl ()):=fun h=>by
    rw[h,Bool.false_or];exact ih (i+1) m (by omega) (by omega)
   by_cases h1:l[i].Entry.ID=e.ID
   ·refine bT (by simpa using h1) (bs (fC hg) ?_)
    by_cases h2:l[i].Entry.fI=e.fI
    ·have hk:j5 l[i]=(e.ID,e.fI):=by unfold j5;rw[h1,h2]
     refine bT (by simpa using h2) (bs (fC hg) ?_)
     rw[hu _ hmem hk,decide_eq_true hk]
     exact bs (apR ht hn) rfl
    ·refine bF (by simpa using h2) (nx (decide_eq_false fun h=>h2 (congrArg Prod.snd h)))
   ·refine bF (by simpa using h1) (nx (decide_eq_false fun h=>h1 (congrArg Prod.fst h)))
 have:=key l.length 0 n (by omega) (by omega)
 rw[aos]
 refine bs this ?_
 rw[al9]
 cases (l.any fun r=>decide (j5 r=(e.ID,e.fI)))<;>rfl
theorem key_inj:∀{l:List Row},(l.map j5).Nodup->∀r∈l,∀r'∈l,j5 r=j5 r'->r=r'
 | [],_,r,hr,_,_,_=>by cases hr
 |x::l,h,r,hr,r',hr',he=>by
  rw[ac7,ajP] at h
  rcases adf.1 hr with h1|h1
  ·rcases adf.1 hr' with h2|h2
   ·rw[h1,h2]
   ·rw[<-h1,he] at h;exact absurd (List.mem_map_of_mem h2) h.1
  ·rcases adf.1 hr' with h2|h2
   ·rw[<-h2,<-he] at h;exact absurd (List.mem_map_of_mem h1) h.1
   ·exact key_inj h.2 r h1 r' h2 he
theorem J5 {n:Nat} {s:ak} {b:Book} (hn:2^20<n) (hb:BI n s b) {r:Row} (hr:r∈b.Rows) {p:Row->Bool} {l:List Row} (hl:l=b.Rows.filter p):nC n (l,r.Entry)=some (p r):=by
 subst hl
 have PV:=hb.rows
 have hf:(b.Rows.filter p).length<=b.Rows.length:=List.length_filter_le _ _
 have ht:uZ r.Entry.Vec r.Entry.aM:=(hb.row r hr).2.1.2.2.2.2
 rw[apS hn (by omega) ht (fun r' hr' hk=>by rw[key_inj hb.ER r' (aji.1 hr').1 r hr hk])]
 congr 1
 cases hp:p r
 ·rw[List.any_eq_false]
  intro x hx
  simp only[decide_eq_true_eq]
  intro hk
  rw[key_inj hb.ER x (aji.1 hx).1 r hr hk] at hx
  have:=(aji.1 hx).2
  rw[hp] at this;cases this
 ·rw[List.any_eq_true]
  exact⟨r,aji.2 ⟨hr,hp⟩,by simp[j5]⟩
theorem adx (b:Book):y7 b=b.Rows.filter fun r=> !jH b r&& (r.dI==(0:Int)):=by
 unfold y7
 rw[List.filter_filter]
 congr 1
 funext r
 exact Bool.and_comm _ _
end Sh
end
