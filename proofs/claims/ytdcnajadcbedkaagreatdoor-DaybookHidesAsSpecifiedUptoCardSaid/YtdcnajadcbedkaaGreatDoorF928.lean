import Derived.ChangeCalls
import Derived.Test.YtdcnajadcbedkaaGreatDoorF927
set_option linter.all false
section
open Go Go.Proofs aR uN
namespace Sh
set_option maxRecDepth 100000
attribute [local irreducible] jk
def okB (x:Int):Prop:=0<=x/\x<256
def okV {n:Nat}(v:Vec n):Prop:=∀x∈v.l,okB x
theorem apQ (h:Vec 8):∀(k:Nat)(i:Int)(o:Vec 32),okV o->okV (ou (NM h) k i o)
 |0,_,_,ho=>ho|k+1,i,o,ho=>apQ h k (i+1) (NM h o i) (fun x hx=>by
   rcases List.mem_or_eq_of_mem_set hx with hx|hx
   .exact ho x hx
   .rw[hx];unfold okB;rw[IntKind.wrap_u8];omega)
theorem aF6 {n:Nat}{v:Vec n}(h:okV v)(j:Nat):okB (v.nth j):=by
 unfold Vec.nth;rw[nD];cases hg:v.l[j]? with
 |none=>exact⟨aG,aG⟩|some x=>exact h x (uW hg)
def QC (d:au):List Int:=[d.b0,d.b1,d.b2,d.b3,d.b4,d.b5,d.b6,d.b7,d.b8,d.b9,d.b10,d.b11,d.b12,d.b13,d.b14,d.b15]
def okD (d:au):Prop:=∀x∈QC d,okB x
theorem aF7 (b:List Int):okV (F4 b):=by unfold F4 Zz;exact apQ _ 32 0 (Vec.rep 32 0) fun x hx=>by have:x=0:=List.eq_of_mem_replicate hx;rw[this];exact⟨aG,aG⟩
theorem aF8 {v:Vec 32}(h:okV v):okD (TV v):=by
 intro x hx;have:∃j,x=v.nth j:=by unfold TV QC at hx;simp only[jd,List.not_mem_nil,or_false] at hx;rcases hx with h|h|h|h|h|h|h|h|h|h|h|h|h|h|h|h<;>exact⟨_,h⟩
 obtain⟨j,rfl⟩:=this;exact aF6 h j
theorem aF9 (t:Int)(ls:List (List UInt8)):okD (jk t ls):=by unfold jk;exact aF8 (aF7 _)
theorem toB {z:Int}(h:okB z):(UInt8.ofNat z.toNat).toNat=z.toNat:=by unfold okB at h;rw[UInt8.toNat_ofNat'];omega
theorem apR:∀{l m:List Int},(∀x∈l,okB x)->(∀x∈m,okB x)->l.map (fun n:Int=>UInt8.ofNat n.toNat)=m.map (fun n:Int=>UInt8.ofNat n.toNat)->l=m
 | [],[],_,_,_=>rfl| [],_::_,_,_,h=>dh|_::_,[],_,_,h=>dh|x::l,y::m,h1,h2,h=>by
  rw[iH,iH] at h;injection h with h3 h4
  rw[apR (fun z hz=>h1 z (kQ _ hz)) (fun z hz=>h2 z (kQ _ hz)) h4];have a:=h1 x (jW ..);have b:=h2 y (jW ..);have:=congrArg UInt8.toNat h3;rw[toB a,toB b] at this;unfold okB at a b;have e:x=y:=RS
  rw[e]
theorem aGa {a b:au}(ha:okD a)(hb:okD b)(h:dH a=dH b):a=b:=by have e:QC a=QC b:=apR ha hb h;cases a;cases b;simpa [QC] using e
theorem agM (x y:UInt8)(a b:List UInt8):Op.bytesLess (x::a) (y::b)=true↔x.toNat<y.toNat\/(x.toNat=y.toNat/\Op.bytesLess a b=true):=by rw[show Op.bytesLess (x::a) (y::b)=(decide (x<y)||(x==y&& Op.bytesLess a b)) from rfl,wM,bf,decide_eq_true_iff,beq_iff_eq,<-UInt8.toNat_inj];exact Iff.rfl
theorem agN (a:List UInt8):¬Op.bytesLess a []=true:=by cases a<;>intro h<;>cases h
theorem apS:∀a b:List UInt8,Op.bytesLess a b=true->¬Op.bytesLess b a=true
 | [],_,_=>agN _|_::_,[],h=>absurd h (agN _)|x::a,y::b,h=>fun k=>by
  rw[agM] at h k;rcases h with h| ⟨h,h'⟩<;>rcases k with k| ⟨k,k'⟩
  .omega
  .omega
  .omega
  .exact apS a b h' k'
theorem apT:∀a b:List UInt8,¬Op.bytesLess a b=true->¬Op.bytesLess b a=true->a=b
 | [],[],_,_=>rfl| [],_::_,h,_=>absurd rfl h|_::_,[],_,h=>absurd rfl h|x::a,y::b,h,k=>by
  rw[agM] at h k;obtain⟨h1,h2⟩:=not_or.1 h;obtain⟨k1,k2⟩:=not_or.1 k;have e:x.toNat=y.toNat:=by clear h2 k2 h k;omega
  rw[UInt8.toNat_inj.1 e,apT a b (fun q=>h2 ⟨e,q⟩) (fun q=>k2 ⟨e.symm,q⟩)]
theorem apU:∀a b c:List UInt8,¬Op.bytesLess a b=true->¬Op.bytesLess b c=true->¬Op.bytesLess a c=true
 |_,_,[],_,_=>agN _|_,[],_::_,_,k=>absurd rfl k| [],_::_,_::_,h,_=>absurd rfl h|x::a,y::b,z::c,h,k=>fun g=>by
  rw[agM] at h k g;obtain⟨h1,h2⟩:=not_or.1 h;obtain⟨k1,k2⟩:=not_or.1 k;rcases g with g| ⟨g,g'⟩
  .clear h2 k2 h k;omega
  .have e1:x.toNat=y.toNat:=by clear h2 k2 h k;omega
   exact apU a b c (fun q=>h2 ⟨e1,q⟩) (fun q=>k2 ⟨e1▸g,q⟩) g'
def xS (x y:au):Prop:=Op.bytesLess (dH x) (dH y)=true
theorem agO:Ord xS:=⟨fun _ _=>apS _ _,fun _ _ _=>apU _ _ _⟩
theorem aGb {x y:au}(hx:okD x)(hy:okD y)(h:¬xS x y)(k:¬xS y x):x=y:=aGa hx hy (apT _ _ h k)
theorem apV:∀a b:List UInt8,decide (Lib.compareBytes a b<0)=Op.bytesLess a b
 | [],[]=>rfl| [],_::_=>rfl|_::_,[]=>rfl|a::x,b::y=>by
  unfold Lib.compareBytes Op.bytesLess;by_cases h1:a<b
  .simp[h1]
  .by_cases h2:b<a
   .have h3:(a==b)=false:=(by rw[beq_eq_false_iff_ne];rintro rfl;exact UInt8.lt_irrefl _ h2);simp[h1,h2,h3]
   .have h3:a=b:=UInt8.le_antisymm (UInt8.not_lt.1 h2) (UInt8.not_lt.1 h1);subst h3;simp only[h1,if_false,decide_false,Bool.false_or,beq_self_eq_true,Bool.true_and];exact apV x y
theorem aGc (n:Nat):Aq (fun _=>True) xS (qp n):=fun a b _ _=>⟨Op.bytesLess (dH a) (dH b),Iff.rfl,fun f=>by
 have e:Pp n (a,b)=some (Lib.compareBytes (dH a) (dH b)):=by rw[aD1];exact bs (aCc _ _) rfl
 exact bs e (congrArg f (apV _ _))⟩
theorem aGd (n:Nat)(a b:au):PN n (a,b)=some (Op.bytesLess (dH a) (dH b)):=by rw[aD9]
def QD (l:List au)(d:au):List au:=(l.filter (fun y=>Op.bytesLess (dH y) (dH d))++[d])++l.filter (fun y=>!Op.bytesLess (dH y) (dH d))
theorem aGe (l:List au)(d:au):(QD l d).Perm (l++[d]):=by unfold QD;rw[fP];refine((List.Perm.append_left _ List.perm_append_comm).trans ?_);rw[<-fP];exact List.Perm.append_right _ (List.filter_append_perm _ _)
theorem aGf {l:List au}{d:au}(h:l.Pairwise fun x y=>¬xS y x):(QD l d).Pairwise fun x y=>¬xS y x:=by
 unfold QD;rw[List.pairwise_append,List.pairwise_append];refine⟨⟨h.sublist List.filter_sublist,List.pairwise_singleton ..,fun a ha b hb=>?_⟩,h.sublist List.filter_sublist,fun a ha b hb=>?_⟩
 .rw[jq.1 hb];exact agO.asym _ _ (He.1 ha).2
 .have hb':¬xS b d:=by have:=(He.1 hb).2;unfold xS;intro q;rw[q] at this;cases this
  rcases qF.1 ha with ha|ha
  .intro q;exact hb' (agO.trans q (He.1 ha).2)
  .rw[jq.1 ha];exact hb'
theorem aGg {n:Nat}{ev:List Event}{rs:List Row}{l:List au}{x5:Int}{d:au}(hl:l.length<=65536):∀(k i m:Nat)(a c:List au),i+k=l.length->k<m->a.length<=i->c.length<=i->
 K9 n ev rs l x5 d m (a,(c,(i:Int)))=some (a++(l.drop i).filter (fun y=>Op.bytesLess (dH y) (dH d)),c++(l.drop i).filter (fun y=>!Op.bytesLess (dH y) (dH d))):=by
 intro k;induction k with
 |zero=>intro i m a c hi hm ha hc;obtain⟨m,rfl⟩:∃m',m=m'+1:=⟨m-1,RS⟩;rw[ao4,decide_eq_false RS,nE RS];simp
 |succ k ih=>
  intro i m a c hi hm ha hc;obtain⟨m,rfl⟩:∃m',m=m'+1:=⟨m-1,RS⟩;have hlt:i<l.length:=RS
  have hg:l[i]? =some l[i]:=fA hlt;rw[ao4,iG hg,cond_true,nY hlt];refine bs (eH hg) (bs (aGd n _ _) ?_);rw[fK RS];cases hv:Op.bytesLess (dH l[i]) (dH d)
  .refine lG rfl (bs (eH hg) (iU (uK dz RS) ?_));rw[ih (i+1) m a (c++[l[i]]) RS RS RS dz,EJ sj,EK sj,fP];rfl
  .refine iU rfl (bs (eH hg) (iU (uK dz RS) ?_));rw[ih (i+1) m (a++[l[i]]) c RS RS dz RS,EK sj,EJ sj,fP];rfl
def uO (ev:List Event)(r:Row):List au:=if wE ev r.Entry.ID<0 then [] else match ev[(wE ev r.Entry.ID).toNat]? with
 |some e=>[wC e.bL r.Entry]|none=>[]
theorem apW {ev:List Event}{r:Row}(h:wE ev r.Entry.ID<0):uO ev r=[]:=by unfold uO;rw[if_pos h]
theorem apX {ev:List Event}{r:Row}{j:Nat}{e:Event}(h:wE ev r.Entry.ID=(j:Int))(g:ev[j]? =some e):uO ev r=[wC e.bL r.Entry]:=by unfold uO;rw[h,if_neg RS,Int.toNat_natCast,g]
theorem aGh {ev:List Event}{r:Row}:∀d∈uO ev r,okD d:=by
 intro d hd;unfold uO at hd;split at hd
 .cases hd
 .split at hd
  .rw[jq.1 hd];exact aF9 _ _
  .cases hd
theorem aGi (ev:List Event)(r:Row):(uO ev r).length<=1:=by
 unfold uO;split
 .simp
 .split<;>simp
theorem agP {ev:List Event}:∀l:List Row,(l.flatMap (uO ev)).length<=l.length
 | []=>aD|r::l=>by have:=aGi ev r;have:=agP (ev:=ev) l;rw[lu,eU,List.length_cons];omega
section
variable {n:Nat}{ev:List Event}{l:List Row}(hn:2^20<n)(hen:ev.length<n)(GL:ev.length<2^62)(hl:l.length<=65536)(hr:∀r∈l,xQ r.Entry/\oO r.Entry.Vec r.Entry.aW)
include hn hen GL hl hr
theorem aGj (pu:List Row):∀(k i m:Nat)(acc:List au),i+k=l.length->k<m->acc.length<=i->K8 n ev (pu,l) m (((),(i:Int)),acc)=some ((),acc++(l.drop i).flatMap (uO ev)):=by
 intro k;induction k with
 |zero=>intro i m acc hi hm ha;obtain⟨m,rfl⟩:∃m',m=m'+1:=⟨m-1,RS⟩;rw[ao2];refine lG (decide_eq_false (by show¬(i:Int)< (l.length:Int);omega)) ?_;rw[nE RS];simp
 |succ k ih=>
  intro i m acc hi hm ha;obtain⟨m,rfl⟩:∃m',m=m'+1:=⟨m-1,RS⟩;have hlt:i<l.length:=RS
  have hg:l[i]? =some l[i]:=fA hlt;obtain⟨q1,q2⟩:=hr _ (lq hlt);rw[ao2,fK RS,nY hlt,lu];refine iU (iG hg) (bs (eH hg) (bs (aFD (r:=l[i]) hen GL) ?_));by_cases h:wE ev l[i].Entry.ID<0
  .refine lG (decide_eq_false RS) ((ih (i+1) m acc RS RS RS).trans ?_);rw[apW h,List.nil_append]
  .obtain⟨j,e,e1,e2,_⟩:=apB h;refine iU (decide_eq_true RS) (bs ((congrArg (aH ev) e1).trans (eH e2)) (bs (agp e.bL q1 q2 hn) (iU (uK dz RS) ((ih (i+1) m (acc++[wC e.bL l[i].Entry]) RS RS dz).trans ?_))));rw[apX e1 e2,fP]
theorem aGk:∀(k i m:Nat)(acc:List au),i+k=l.length->k<m->acc.length<=i->(acc.Pairwise fun x y=>¬xS y x)->∃res:List au,La n ev l m (acc,(i:Int))=some res/\res.Perm (acc++(l.drop i).flatMap (uO ev))/\res.Pairwise fun x y=>¬xS y x:=by
 intro k;induction k with
 |zero=>
  intro i m acc hi hm ha hs;obtain⟨m,rfl⟩:∃m',m=m'+1:=⟨m-1,RS⟩;refine⟨acc,?_,?_,hs⟩
  .rw[ao5,decide_eq_false RS,cond_false]
  .rw[nE RS];simp
 |succ k ih=>
  intro i m acc hi hm ha hs;obtain⟨m,rfl⟩:∃m',m=m'+1:=⟨m-1,RS⟩;have hlt:i<l.length:=RS
  have hg:l[i]? =some l[i]:=fA hlt;obtain⟨q1,q2⟩:=hr _ (lq hlt);rw[ao5,iG hg,cond_true,fK RS,nY hlt,lu];by_cases h:wE ev l[i].Entry.ID<0
  .obtain⟨res,r1,r2,r3⟩:=ih (i+1) m acc RS RS RS hs;refine⟨res,bs (eH hg) (bs (apA hen GL) (iU (decide_eq_true h) r1)),?_,r3⟩;rw[apW h,List.nil_append];exact r2
  .obtain⟨j,e,e1,e2,_⟩:=apB h;have hins:=aGg (n:=n) (ev:=ev) (rs:=l) (l:=acc) (x5:=(i:Int)) (d:=wC e.bL l[i].Entry) RS acc.length 0 n [] [] RS RS (iR _) (iR _);rw[List.nil_append,List.nil_append,qd] at hins;have f1:=List.length_filter_le (fun y=>Op.bytesLess (dH y) (dH (wC e.bL l[i].Entry))) acc;have f2:=List.length_filter_le (fun y=>!Op.bytesLess (dH y) (dH (wC e.bL l[i].Entry))) acc;have hp:=aGe acc (wC e.bL l[i].Entry);obtain⟨res,r1,r2,r3⟩:=ih (i+1) m (QD acc (wC e.bL l[i].Entry)) RS RS (by rw[hp.length_eq];simp;omega) (aGf hs);refine⟨res,bs (eH hg) (bs (apA hen GL) (lG (decide_eq_false h) (bs ((congrArg (aH ev) e1).trans (eH e2)) (bs (eH hg) (bs (agq e.bL q1 q2 hn) (bs hins (iU (uK dz RS) (iU (uK dz RS) r1)))))))),?_,r3⟩;rw[apX e1 e2,<-fP];exact r2.trans (List.Perm.append_right _ hp)
end
def aGl (ev:List Event)(b:Book):List au:=(tH b).flatMap (uO ev)
theorem agQ {n:Nat}{s:aM}{b:Book}(hb:ni n s b){r:Row}(hr:r∈b.Rows):xQ r.Entry/\oO r.Entry.Vec r.Entry.aW:=by obtain⟨_,h1,h2,h3⟩:=hb.row r hr;have hc:=hb.commit;have hd:=hb.days;exact⟨GI.all h1.2.2.2.2.2 Q7,h1.2.2.2.2.1⟩
theorem apY {b:Book}{r:Row}(h:r∈tH b):r∈b.Rows:=by rw[agA] at h;exact(He.1 h).1
theorem agR {n:Nat}{s:aM}{b:Book}(hb:ni n s b):(tH b).length<=65536:=by rw[agA];exact eX (List.length_filter_le _ _) hb.rows
theorem aGm {n:Nat}{s:aM}{b:Book}{ev:List Event}(hn:2^20<n)(hb:ni n s b)(hen:ev.length<n)(GL:ev.length<2^62):∃V:List au,PK n (ev,b)=some V/\PS n (ev,b)=some V/\V.Perm (aGl ev b):=by
 have hl:=agR hb;have hr:∀r∈tH b,xQ r.Entry/\oO r.Entry.Vec r.Entry.aW:=fun r h=>agQ hb (apY h);have w1:=aGj hn hen GL hl hr (Lg b) (tH b).length 0 n [] RS RS (iR _);rw[List.nil_append,qd] at w1;obtain⟨R,r1,r2,r3⟩:=aGk hn hen GL hl hr (tH b).length 0 n [] RS RS (iR _) List.Pairwise.nil;rw[List.nil_append,qd] at r2;have hU:=agP (ev:=ev) (tH b);obtain⟨W,s1,s2,s3⟩:=aF5 (n:=n) (lt:=xS) (aGc n) agO GH RS (l:=(tH b).flatMap (uO ev)) RS (fun _ _=>trivial);have hok:∀d∈(tH b).flatMap (uO ev),okD d:=fun d hd=>by obtain⟨r,_,h⟩:=List.mem_flatMap.1 hd;exact aGh d h
 have e:W.2=R:=by refine List.Perm.eq_of_pairwise (le:=fun x y=>¬xS y x) (fun a b ha hb h k=>aGb (hok a (s2.subset ha)) (hok b (r2.subset hb)) k h) s3 r3 (s2.trans r2.symm)
 refine⟨R,?_,?_,r2⟩
 .rw[aD7];exact bs (apw hn hb) (bs w1 (bs s1 (congrArg some e)))
 .rw[aEa];exact bs (apy hn hb) (bs r1 rfl)
end Sh
end
section
open Go Go.Proofs aR uN
namespace Sh
set_option maxRecDepth 100000
attribute [local irreducible] jk
theorem apZ (n:Nat):Ad n (())=some true:=aA2 n ()
theorem aGn {U:Type}{c:Bool}{a b r:Option U}(h:c=true->a=r)(k:c=false->b=r):(bif c then a else b)=r:=by
 cases c
 .exact k rfl
 .exact h rfl
theorem QE {U β:Type}{c:Bool}{o:Option U}{x d:U}{f:U->Option β}{r:Option β}(h:o=some x)(k:f (bif c then x else d)=r):(kC c o d).bind f=r:=by subst h;rw[Ot];exact k
theorem ap0 (d:au):((d.b0==d.b0)&& ((d.b1==d.b1)&& ((d.b2==d.b2)&& ((d.b3==d.b3)&& ((d.b4==d.b4)&& ((d.b5==d.b5)&& ((d.b6==d.b6)&& ((d.b7==d.b7)&& ((d.b8==d.b8)&& ((d.b9==d.b9)&& ((d.b10==d.b10)&& ((d.b11==d.b11)&& ((d.b12==d.b12)&& ((d.b13==d.b13)&& ((d.b14==d.b14)&& ((d.b15==d.b15)&& true))))))))))))))))=true:=(Ao d d).symm.trans ((V4 _ _).2 rfl)
theorem aGo {n:Nat}{l:List au}(hn:2^20<n)(hb:l.length<=65536):PU n l=some (wB n l):=by rw[aEc];exact bs (agi hn hb) rfl
theorem aGp {n:Nat}{l:List au}(hn:2^20<n)(hb:l.length<=65536):PV n l=some (wB n l):=by rw[aEd];exact bs (agj hn hb) rfl
theorem aGq {n:Nat}(hN:2^40<=n){r:Root}{x:au}{e:Entry}(he:xQ e)(ht:oO e.Vec e.aW){i:Int}{l:List au}(hl:l.length<2^62):∃b:Bool,PY n (r,(x,(e,(i,l))))=some b/\PZ n (r,(x,(e,(i,l))))=some b:=by
 obtain⟨b,h1,h2⟩:=aEm hN (leaf:=wC x e) (root:=r.eO) (i:=i) (n:=r.FY) hl;refine⟨b,?_,?_⟩
 .rw[aEe];exact bs (agp x he ht RS) (bs h1 rfl)
 .rw[aEh];exact bs (agq x he ht RS) (bs h2 rfl)
theorem aGr {n:Nat}{x1:aM}{x2:List Event}{x3:au}{x4:Entry}{x5:List au}{x6:au}{x7:Root}{x8:Int}(hn:2^40<=n)(hs:rZ x1 n)(hl:x2.length<n)(hb:x2.length<2^62)(he:∀e∈x2,agu e n)(h4:x4.aW.length<n)(ap1:x4.aW.length<2^62)(agS:xQ x4):
 XN n (x1,(x2,(x3,(x4,(x5,(x6,(x7,x8)))))))=some true:=by
 have hn2:2^20<n:=RS
 obtain⟨q,hq,q1,_⟩:=aFr (n:=n) (s:=x1) (l:=x2) hn2 hs hl hb he;obtain⟨f4,ap2⟩:=apd (n:=n) (e:=x4) h4 ap1;rw[aEi];refine bs hq (QE ap2 (QE (aDs n x7) (aGn (fun _=>bs (apZ n) rfl) (fun hc=>?_))));have hq2:q.2=true:=by
  cases h:q.2 with
  |true=>rfl|false=>rw[h] at hc;simp at hc
 rw[hq2] at hc;have hf:f4=true:=by
  cases f4 with
  |true=>rfl|false=>simp at hc;exact absurd hc.1.1 aG
 subst hf;have h5:x5.length<=20:=by
  by_cases h:x5.length<=20
  .exact h
  .have:decide ((x5.length:Int)> (20:Int))=true:=decide_eq_true RS;rw[this] at hc;simp at hc
 obtain⟨_,hrun,hsm⟩:=q1 hq2;have hB:ni n x1 q.1:=(ow.ok hn2 hs (apu n x1) hsm hrun).1;have t4:oO x4.Vec x4.aW:=aph ap1 ap2;have V3:=hB.rows;have hpl:(Lg q.1).length<=65536:=eX (List.length_filter_le _ _) V3;have hp1:=apk (n:=n) (l:=Lg q.1) (fun r hr=>(agQ hB (He.1 hr).1).2) hn2 hpl;have hv1:=apk (n:=n) (l:=tH q.1) (fun r hr=>(agQ hB (apY hr)).2) hn2 (agR hB);obtain⟨j,p,e,e1,e2,e3,_⟩:=aFB (n:=n) (l:=x5) (x:=x6) hn2 RS;obtain⟨V,V1,V2,aGs⟩:=aGm (ev:=x2) hn2 hB hl hb;have aGt:V.length<=65536:=by rw[aGs.length_eq];exact eX (agP _) (agR hB)
 obtain⟨o,o1,o2⟩:=aGq hn (r:=x7) (x:=x3) agS t4 (i:=x8) (l:=x5) RS;refine bs (apw hn2 hB) (bs (aFz hn2 hB) (bs hp1 (QE (apy hn2 hB) (QE hv1 (lG rfl ?_)))));refine bs e1 (bs e2 (bs (agp x3 agS t4 hn2) (bs (agq x3 agS t4 hn2) (iU (ap0 _) ?_))));refine bs V1 (bs V2 (bs (apz hn2 aGt) (iU rfl ?_)));refine bs (aGo hn2 RS) (bs (aGp hn2 RS) (QE (apz hn2 e3) (bs (apZ n) (iU rfl (iU (ap0 _) ?_)))));refine iU (by simp;rfl) (bs o1 (bs o2 ?_));rw[beq_self_eq_true]
end Sh
end
section
namespace Go.Proofs.YtdcnajadcbedkaaGreatDoor.daybook
open Go Go.ChangeShapes Go.WideShapes Go.ChangeAt Go.RowKit aR Sh
set_option maxRecDepth 100000
theorem ap3 {l:List V}{v:V}(h:v∈l):lX v<=qB l:=by
 induction l with
 |nil=>cases h|cons x l ih=>
  rcases jd.1 h with rfl|h
  .show lX v<=lX v+qB l;omega
  .have:=ih h;show lX v<=lX x+qB l;omega
theorem agT {U:Type}(f:U->V){l:List U}{x:U}(h:x∈l):lX (f x)<=qB (l.map f):=ap3 (List.mem_map_of_mem h)
theorem Lp {U:Type}(f:U->V)(hf:∀x,1<=lX (f x))(l:List U):l.length<=qB (l.map f):=by
 induction l with
 |nil=>exact oZ _|cons x l ih=>have:=hf x;show l.length+1<=lX (f x)+qB (l.map f);omega
theorem ap4 (d:Def):d.Name.length+d.Words.length+1<=lX (Def.v d)/\∀w∈d.Words,w.length+1<=lX (Def.v d):=by have e:lX (Def.v d)=(d.Name.length+1)+(1+(1+(1+(qB (d.Words.map V.str)+1+0)))):=rfl;have h1:=Lp V.str (fun x=>by simp[lX]) d.Words;refine⟨RS,fun w hw=>?_⟩;have h2:=agT V.str hw;have h3:lX (V.str w)=w.length+1:=rfl;omega
theorem aGu {s:aM}{n k:Nat}(h:lX (aM.v s)<=k)(hk:k<n)(hk2:k<2^62):rZ s n:=by have e:lX (aM.v s)=1+(1+(qB (s.Defs.map Def.v)+1+0)):=rfl;have h1:=Lp Def.v (fun x=>by have:=(ap4 x).1;omega) s.Defs;refine⟨RS,RS,fun d hd=>?_⟩;have h2:=agT Def.v hd;have h3:=ap4 d;have h4:=h3.1;refine⟨RS,RS,RS,RS,fun w hw=>?_⟩;have:=h3.2 w hw;exact⟨RS,RS⟩
theorem ap5 (e:Sh.Event):e.Vec.length+e.aW.length+1<=lX (Event.v e):=by have h1:=Lp iv (fun x=>iR _) e.Vec;have h2:=Lp Attr.v (fun x=>by show 1<=(x.Name.length+1)+_;omega) e.aW;obtain⟨m,hm⟩:∃m,lX (Event.v e)=1+(1+(1+(1+(1+(1+(1+(qB (e.Vec.map iv)+1+(qB (e.aW.map Attr.v)+1+m)))))))):=⟨_,rfl⟩;omega
theorem V7 {l:List V}{v:V}(h:v∈l):iy v<=mK l:=by
 induction l with
 |nil=>cases h|cons x l ih=>
  rcases jd.1 h with rfl|h
  .show iy v<=iy v+mK l;omega
  .have:=ih h;show iy v<=iy x+mK l;omega
theorem agU {U:Type}(f:U->V){l:List U}{x:U}(h:x∈l):iy (f x)<=mK (l.map f):=V7 (List.mem_map_of_mem h)
theorem tJ {n:Int}{k:Nat}(h:iy (V.int .i64 n)<=k)(hk:k<2^62):rI n:=by
 have h1:1+JA .i64 n<=k:=h;have h2:=aww (k:=.i64) (n:=n) RS
 exact⟨h2.1,by have:=h2.2;have e:IntKind.max .i64=2^63-1:=aG
               rw[e] at this;omega⟩
theorem ap6 {l:List Int}{k:Nat}(h:iy (lv iv l)<=k)(hk:k<2^62):∀x∈l,rI x:=fun x hx=>by
 have h1:mK (l.map iv)+1<=k:=h;have h2:iy (V.int .i64 x)<=mK (l.map iv):=agU iv hx;exact tJ (k:=k) RS hk
theorem ap7 {l:List Attr}{k:Nat}(h:iy (lv Attr.v l)<=k)(hk:k<2^62):∀a∈l,rI a.Kind/\rI a.N:=fun a ha=>by
 have h1:mK (l.map Attr.v)+1<=k:=h;have h2:iy (Attr.v a)<=mK (l.map Attr.v):=agU Attr.v ha;have hm:∀v∈a.c,iy v<=k:=fun v hv=>eX (V7 hv) (show mK a.c<=k from eX h2 RS);exact⟨tJ (hm _ (by unfold Attr.c;simp)) hk,tJ (hm _ (by unfold Attr.c;simp)) hk⟩
theorem aGv {e:Sh.Event}{k:Nat}(h:iy (Sh.Event.v e)<=k)(hk:k<2^62):ags e:=by
 have hm:∀v∈e.c,iy v<=k:=fun v hv=>eX (V7 hv) h;exact⟨⟨tJ (hm _ Er) hk,tJ (hm _ Er) hk,tJ (hm _ Er) hk,tJ (hm _ Er) hk,tJ (hm _ Er) hk⟩,
  ap6 (hm _ Er) hk,ap7 (hm _ Er) hk⟩
theorem aGw {e:Sh.Entry}{k:Nat}(h:iy (Sh.Entry.v e)<=k)(hk:k<2^62):xQ e:=by
 have hm:∀v∈e.c,iy v<=k:=fun v hv=>eX (V7 hv) h;exact⟨⟨tJ (hm _ zi) hk,tJ (hm _ zi) hk,tJ (hm _ zi) hk,tJ (hm _ zi) hk,tJ (hm _ zi) hk,tJ (hm _ zi) hk,tJ (hm _ zi) hk⟩,
  ap6 (hm _ zi) hk,ap7 (hm _ zi) hk⟩
theorem aGx {l:List Sh.Event}{n k:Nat}(h:mK (l.map Event.v)+1<=k)(hk:k<n)(hk2:k<2^62):l.length<n/\l.length<2^62/\∀e∈l,agu e n:=by have h0:=TM (l.map Event.v);have h1:=Lp Event.v (fun x=>by have:=ap5 x;omega) l;refine⟨RS,RS,fun x hx=>?_⟩;have h2:=agT Event.v hx;have h3:=ap5 x;exact⟨RS,RS,RS,RS,aGv (k:=k) (eX (agU Event.v hx) RS) hk2⟩
theorem aGy {e:Sh.Entry}{k:Nat}(h:iy (Sh.Entry.v e)<=k):e.aW.length<=k:=by have h0:=Zm (Sh.Entry.v e);have h2:=Lp Attr.v (fun x=>by show 1<=(x.Name.length+1)+_;omega) e.aW;have hm:lX (lv Attr.v e.aW)<=qB e.c:=ap3 zi;have e1:lX (lv Attr.v e.aW)=qB (e.aW.map Attr.v)+1:=rfl;have e2:lX (Sh.Entry.v e)=qB e.c:=rfl;omega
end Go.Proofs.YtdcnajadcbedkaaGreatDoor.daybook
end
