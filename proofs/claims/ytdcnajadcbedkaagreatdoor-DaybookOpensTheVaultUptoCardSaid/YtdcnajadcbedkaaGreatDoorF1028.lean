import Derived.ChangeCalls
import Derived.Test.YtdcnajadcbedkaaGreatDoorF1027
set_option linter.all false
section
open Go Go.Proofs aQ tQ
namespace Sh
set_option maxRecDepth 100000
attribute [local irreducible] j4
def okB (x:Int):Prop:=0<=x/\x<256
def okV {n:Nat}(v:Vec n):Prop:=∀x∈v.l,okB x
theorem aoV (h:Vec 8):∀(k:Nat)(i:Int)(o:Vec 32),okV o->okV (oD (Ns h) k i o)
 |0,_,_,ho=>ho|k+1,i,o,ho=>aoV h k (i+1) (Ns h o i) (fun x hx=>by
   rcases List.mem_or_eq_of_mem_set hx with hx|hx
   .exact ho x hx
   .rw[hx];unfold okB;rw[IntKind.wrap_u8];omega)
theorem aEL {n:Nat}{v:Vec n}(h:okV v)(j:Nat):okB (v.nth j):=by
 unfold Vec.nth;rw[nE];cases hg:v.l[j]? with
 |none=>exact⟨aK,aK⟩|some x=>exact h x (tX hg)
def Qm (d:au):List Int:=[d.b0,d.b1,d.b2,d.b3,d.b4,d.b5,d.b6,d.b7,d.b8,d.b9,d.b10,d.b11,d.b12,d.b13,d.b14,d.b15]
def okD (d:au):Prop:=∀x∈Qm d,okB x
theorem aEM (b:List Int):okV (FM b):=by unfold FM Y9;exact aoV _ 32 0 (Vec.rep 32 0) fun x hx=>by have:x=0:=List.eq_of_mem_replicate hx;rw[this];exact⟨aK,aK⟩
theorem aEN {v:Vec 32}(h:okV v):okD (TG v):=by
 intro x hx;have:∃j,x=v.nth j:=by unfold TG Qm at hx;simp only[jr,List.not_mem_nil,or_false] at hx;rcases hx with h|h|h|h|h|h|h|h|h|h|h|h|h|h|h|h<;>exact⟨_,h⟩
 obtain⟨j,rfl⟩:=this;exact aEL h j
theorem aEO (t:Int)(ls:List (List UInt8)):okD (j4 t ls):=by unfold j4;exact aEN (aEM _)
theorem toB {z:Int}(h:okB z):(UInt8.ofNat z.toNat).toNat=z.toNat:=by unfold okB at h;rw[UInt8.toNat_ofNat'];omega
theorem aoW:∀{l m:List Int},(∀x∈l,okB x)->(∀x∈m,okB x)->l.map (fun n:Int=>UInt8.ofNat n.toNat)=m.map (fun n:Int=>UInt8.ofNat n.toNat)->l=m
 | [],[],_,_,_=>rfl| [],_::_,_,_,h=>cZ|_::_,[],_,_,h=>cZ|x::l,y::m,h1,h2,h=>by
  rw[iH,iH] at h;injection h with h3 h4
  rw[aoW (fun z hz=>h1 z (jT _ hz)) (fun z hz=>h2 z (jT _ hz)) h4];have a:=h1 x (jv ..);have b:=h2 y (jv ..);have:=congrArg UInt8.toNat h3;rw[toB a,toB b] at this;unfold okB at a b;have e:x=y:=RS
  rw[e]
theorem aEP {a b:au}(ha:okD a)(hb:okD b)(h:dV a=dV b):a=b:=by have e:Qm a=Qm b:=aoW ha hb h;cases a;cases b;simpa [Qm] using e
theorem afW (x y:UInt8)(a b:List UInt8):Op.bytesLess (x::a) (y::b)=true↔x.toNat<y.toNat\/(x.toNat=y.toNat/\Op.bytesLess a b=true):=by rw[show Op.bytesLess (x::a) (y::b)=(decide (x<y)||(x==y&& Op.bytesLess a b)) from rfl,wI,aZ,decide_eq_true_iff,beq_iff_eq,<-UInt8.toNat_inj];exact Iff.rfl
theorem afX (a:List UInt8):¬Op.bytesLess a []=true:=by cases a<;>intro h<;>cases h
theorem aoX:∀a b:List UInt8,Op.bytesLess a b=true->¬Op.bytesLess b a=true
 | [],_,_=>afX _|_::_,[],h=>absurd h (afX _)|x::a,y::b,h=>fun k=>by
  rw[afW] at h k;rcases h with h| ⟨h,h'⟩<;>rcases k with k| ⟨k,k'⟩
  .omega
  .omega
  .omega
  .exact aoX a b h' k'
theorem aoY:∀a b:List UInt8,¬Op.bytesLess a b=true->¬Op.bytesLess b a=true->a=b
 | [],[],_,_=>rfl| [],_::_,h,_=>absurd rfl h|_::_,[],_,h=>absurd rfl h|x::a,y::b,h,k=>by
  rw[afW] at h k;obtain⟨h1,h2⟩:=not_or.1 h;obtain⟨k1,k2⟩:=not_or.1 k;have e:x.toNat=y.toNat:=by clear h2 k2 h k;omega
  rw[UInt8.toNat_inj.1 e,aoY a b (fun q=>h2 ⟨e,q⟩) (fun q=>k2 ⟨e.symm,q⟩)]
theorem aoZ:∀a b c:List UInt8,¬Op.bytesLess a b=true->¬Op.bytesLess b c=true->¬Op.bytesLess a c=true
 |_,_,[],_,_=>afX _|_,[],_::_,_,k=>absurd rfl k| [],_::_,_::_,h,_=>absurd rfl h|x::a,y::b,z::c,h,k=>fun g=>by
  rw[afW] at h k g;obtain⟨h1,h2⟩:=not_or.1 h;obtain⟨k1,k2⟩:=not_or.1 k;rcases g with g| ⟨g,g'⟩
  .clear h2 k2 h k;omega
  .have e1:x.toNat=y.toNat:=by clear h2 k2 h k;omega
   exact aoZ a b c (fun q=>h2 ⟨e1,q⟩) (fun q=>k2 ⟨e1▸g,q⟩) g'
def xQ (x y:au):Prop:=Op.bytesLess (dV x) (dV y)=true
theorem afY:Ord xQ:=⟨fun _ _=>aoX _ _,fun _ _ _=>aoZ _ _ _⟩
theorem aEQ {x y:au}(hx:okD x)(hy:okD y)(h:¬xQ x y)(k:¬xQ y x):x=y:=aEP hx hy (aoY _ _ h k)
theorem ao0:∀a b:List UInt8,decide (Lib.compareBytes a b<0)=Op.bytesLess a b
 | [],[]=>rfl| [],_::_=>rfl|_::_,[]=>rfl|a::x,b::y=>by
  unfold Lib.compareBytes Op.bytesLess;by_cases h1:a<b
  .simp[h1]
  .by_cases h2:b<a
   .have h3:(a==b)=false:=(by rw[beq_eq_false_iff_ne];rintro rfl;exact UInt8.lt_irrefl _ h2);simp[h1,h2,h3]
   .have h3:a=b:=UInt8.le_antisymm (UInt8.not_lt.1 h2) (UInt8.not_lt.1 h1);subst h3;simp only[h1,if_false,decide_false,Bool.false_or,beq_self_eq_true,Bool.true_and];exact ao0 x y
theorem aER (n:Nat):Af (fun _=>True) xQ (qA n):=fun a b _ _=>⟨Op.bytesLess (dV a) (dV b),Iff.rfl,fun f=>by
 have e:OV n (a,b)=some (Lib.compareBytes (dV a) (dV b)):=by rw[aCE];exact bs (aAI _ _) rfl
 exact bs e (congrArg f (ao0 _ _))⟩
theorem aES (n:Nat)(a b:au):Pt n (a,b)=some (Op.bytesLess (dV a) (dV b)):=by rw[aC7]
def Qn (l:List au)(d:au):List au:=(l.filter (fun y=>Op.bytesLess (dV y) (dV d))++[d])++l.filter (fun y=>!Op.bytesLess (dV y) (dV d))
theorem aET (l:List au)(d:au):(Qn l d).Perm (l++[d]):=by unfold Qn;rw[fP];refine((List.Perm.append_left _ List.perm_append_comm).trans ?_);rw[<-fP];exact List.Perm.append_right _ (List.filter_append_perm _ _)
theorem aEU {l:List au}{d:au}(h:l.Pairwise fun x y=>¬xQ y x):(Qn l d).Pairwise fun x y=>¬xQ y x:=by
 unfold Qn;rw[List.pairwise_append,List.pairwise_append];refine⟨⟨h.sublist List.filter_sublist,List.pairwise_singleton ..,fun a ha b hb=>?_⟩,h.sublist List.filter_sublist,fun a ha b hb=>?_⟩
 .rw[iZ.1 hb];exact afY.asym _ _ (Lr.1 ha).2
 .have hb':¬xQ b d:=by have:=(Lr.1 hb).2;unfold xQ;intro q;rw[q] at this;cases this
  rcases rH.1 ha with ha|ha
  .intro q;exact hb' (afY.trans q (Lr.1 ha).2)
  .rw[iZ.1 ha];exact hb'
theorem aEV {n:Nat}{ev:List Event}{rs:List Row}{l:List au}{x5:Int}{d:au}(hl:l.length<=65536):∀(k i m:Nat)(a c:List au),i+k=l.length->k<m->a.length<=i->c.length<=i->
 KR n ev rs l x5 d m (a,(c,(i:Int)))=some (a++(l.drop i).filter (fun y=>Op.bytesLess (dV y) (dV d)),c++(l.drop i).filter (fun y=>!Op.bytesLess (dV y) (dV d))):=by
 intro k;induction k with
 |zero=>intro i m a c hi hm ha hc;obtain⟨m,rfl⟩:∃m',m=m'+1:=⟨m-1,RS⟩;rw[aok,decide_eq_false RS,nG RS];simp
 |succ k ih=>
  intro i m a c hi hm ha hc;obtain⟨m,rfl⟩:∃m',m=m'+1:=⟨m-1,RS⟩;have hlt:i<l.length:=RS
  have hg:l[i]? =some l[i]:=fI hlt;rw[aok,iU hg,cond_true,om hlt];refine bs (eG hg) (bs (aES n _ _) ?_);rw[fU RS];cases hv:Op.bytesLess (dV l[i]) (dV d)
  .refine kQ rfl (bs (eG hg) (iV (uR dw RS) ?_));rw[ih (i+1) m a (c++[l[i]]) RS RS RS dw,Ev sH,Ew sH,fP];rfl
  .refine iV rfl (bs (eG hg) (iV (uR dw RS) ?_));rw[ih (i+1) m (a++[l[i]]) c RS RS dw RS,Ew sH,Ev sH,fP];rfl
def sF (ev:List Event)(r:Row):List au:=if pK ev r.Entry.ID<0 then [] else match ev[(pK ev r.Entry.ID).toNat]? with
 |some e=>[qc e.bE r.Entry]|none=>[]
theorem ao1 {ev:List Event}{r:Row}(h:pK ev r.Entry.ID<0):sF ev r=[]:=by unfold sF;rw[if_pos h]
theorem VG {ev:List Event}{r:Row}{j:Nat}{e:Event}(h:pK ev r.Entry.ID=(j:Int))(g:ev[j]? =some e):sF ev r=[qc e.bE r.Entry]:=by unfold sF;rw[h,if_neg RS,Int.toNat_natCast,g]
theorem aEW {ev:List Event}{r:Row}:∀d∈sF ev r,okD d:=by
 intro d hd;unfold sF at hd;split at hd
 .cases hd
 .split at hd
  .rw[iZ.1 hd];exact aEO _ _
  .cases hd
theorem aEX (ev:List Event)(r:Row):(sF ev r).length<=1:=by
 unfold sF;split
 .simp
 .split<;>simp
theorem ao2 {ev:List Event}:∀l:List Row,(l.flatMap (sF ev)).length<=l.length
 | []=>aD|r::l=>by have:=aEX ev r;have:=ao2 (ev:=ev) l;rw[kT,fG,List.length_cons];omega
section
variable {n:Nat}{ev:List Event}{l:List Row}(hn:2^20<n)(hen:ev.length<n)(Ah:ev.length<2^62)(hl:l.length<=65536)(hr:∀r∈l,yZ r.Entry/\qI r.Entry.Vec r.Entry.aX)
include hn hen Ah hl hr
theorem aEY (pu:List Row):∀(k i m:Nat)(acc:List au),i+k=l.length->k<m->acc.length<=i->KN n ev (pu,l) m (((),(i:Int)),acc)=some ((),acc++(l.drop i).flatMap (sF ev)):=by
 intro k;induction k with
 |zero=>intro i m acc hi hm ha;obtain⟨m,rfl⟩:∃m',m=m'+1:=⟨m-1,RS⟩;rw[an9];refine kQ (decide_eq_false (by show¬(i:Int)< (l.length:Int);omega)) ?_;rw[nG RS];simp
 |succ k ih=>
  intro i m acc hi hm ha;obtain⟨m,rfl⟩:∃m',m=m'+1:=⟨m-1,RS⟩;have hlt:i<l.length:=RS
  have hg:l[i]? =some l[i]:=fI hlt;obtain⟨q1,q2⟩:=hr _ (lM hlt);rw[an9,fU RS,om hlt,kT];refine iV (iU hg) (bs (eG hg) (bs (aEh (r:=l[i]) hen Ah) ?_));by_cases h:pK ev l[i].Entry.ID<0
  .refine kQ (decide_eq_false RS) ((ih (i+1) m acc RS RS RS).trans ?_);rw[ao1 h,List.nil_append]
  .obtain⟨j,e,e1,e2,_⟩:=VD h;refine iV (decide_eq_true RS) (bs ((congrArg (aG ev) e1).trans (eG e2)) (bs (P6 e.bE q1 q2 hn) (iV (uR dw RS) ((ih (i+1) m (acc++[qc e.bE l[i].Entry]) RS RS dw).trans ?_))));rw[VG e1 e2,fP]
theorem aEZ:∀(k i m:Nat)(acc:List au),i+k=l.length->k<m->acc.length<=i->(acc.Pairwise fun x y=>¬xQ y x)->∃res:List au,KS n ev l m (acc,(i:Int))=some res/\res.Perm (acc++(l.drop i).flatMap (sF ev))/\res.Pairwise fun x y=>¬xQ y x:=by
 intro k;induction k with
 |zero=>
  intro i m acc hi hm ha hs;obtain⟨m,rfl⟩:∃m',m=m'+1:=⟨m-1,RS⟩;refine⟨acc,?_,?_,hs⟩
  .rw[aol,decide_eq_false RS,cond_false]
  .rw[nG RS];simp
 |succ k ih=>
  intro i m acc hi hm ha hs;obtain⟨m,rfl⟩:∃m',m=m'+1:=⟨m-1,RS⟩;have hlt:i<l.length:=RS
  have hg:l[i]? =some l[i]:=fI hlt;obtain⟨q1,q2⟩:=hr _ (lM hlt);rw[aol,iU hg,cond_true,fU RS,om hlt,kT];by_cases h:pK ev l[i].Entry.ID<0
  .obtain⟨res,r1,r2,r3⟩:=ih (i+1) m acc RS RS RS hs;refine⟨res,bs (eG hg) (bs (afJ hen Ah) (iV (decide_eq_true h) r1)),?_,r3⟩;rw[ao1 h,List.nil_append];exact r2
  .obtain⟨j,e,e1,e2,_⟩:=VD h;have hins:=aEV (n:=n) (ev:=ev) (rs:=l) (l:=acc) (x5:=(i:Int)) (d:=qc e.bE l[i].Entry) RS acc.length 0 n [] [] RS RS (iR _) (iR _);rw[List.nil_append,List.nil_append,qm] at hins;have f1:=List.length_filter_le (fun y=>Op.bytesLess (dV y) (dV (qc e.bE l[i].Entry))) acc;have f2:=List.length_filter_le (fun y=>!Op.bytesLess (dV y) (dV (qc e.bE l[i].Entry))) acc;have hp:=aET acc (qc e.bE l[i].Entry);obtain⟨res,r1,r2,r3⟩:=ih (i+1) m (Qn acc (qc e.bE l[i].Entry)) RS RS (by rw[hp.length_eq];simp;omega) (aEU hs);refine⟨res,bs (eG hg) (bs (afJ hen Ah) (kQ (decide_eq_false h) (bs ((congrArg (aG ev) e1).trans (eG e2)) (bs (eG hg) (bs (afv e.bE q1 q2 hn) (bs hins (iV (uR dw RS) (iV (uR dw RS) r1)))))))),?_,r3⟩;rw[VG e1 e2,<-fP];exact r2.trans (List.Perm.append_right _ hp)
end
def aE0 (ev:List Event)(b:Book):List au:=(qJ b).flatMap (sF ev)
theorem ao3 {n:Nat}{s:aM}{b:Book}(hb:nu n s b){r:Row}(hr:r∈b.Rows):yZ r.Entry/\qI r.Entry.Vec r.Entry.aX:=by obtain⟨_,h1,h2,h3⟩:=hb.row r hr;have hc:=hb.commit;have hd:=hb.days;exact⟨Gp.all h1.2.2.2.2.2 QL,h1.2.2.2.2.1⟩
theorem afZ {b:Book}{r:Row}(h:r∈qJ b):r∈b.Rows:=by rw[afH] at h;exact(Lr.1 h).1
theorem ao4 {n:Nat}{s:aM}{b:Book}(hb:nu n s b):(qJ b).length<=65536:=by rw[afH];exact eZ (List.length_filter_le _ _) hb.rows
theorem aE1 {n:Nat}{s:aM}{b:Book}{ev:List Event}(hn:2^20<n)(hb:nu n s b)(hen:ev.length<n)(Ah:ev.length<2^62):∃V:List au,O9 n (ev,b)=some V/\ane n (ev,b)=some V/\V.Perm (aE0 ev b):=by
 have hl:=ao4 hb;have hr:∀r∈qJ b,yZ r.Entry/\qI r.Entry.Vec r.Entry.aX:=fun r h=>ao3 hb (afZ h);have w1:=aEY hn hen Ah hl hr (VB b) (qJ b).length 0 n [] RS RS (iR _);rw[List.nil_append,qm] at w1;obtain⟨R,r1,r2,r3⟩:=aEZ hn hen Ah hl hr (qJ b).length 0 n [] RS RS (iR _) List.Pairwise.nil;rw[List.nil_append,qm] at r2;have hU:=ao2 (ev:=ev) (qJ b);obtain⟨W,s1,s2,s3⟩:=aEK (n:=n) (lt:=xQ) (aER n) afY Gn RS (l:=(qJ b).flatMap (sF ev)) RS (fun _ _=>trivial);have hok:∀d∈(qJ b).flatMap (sF ev),okD d:=fun d hd=>by obtain⟨r,_,h⟩:=List.mem_flatMap.1 hd;exact aEW d h
 have e:W.2=R:=by refine List.Perm.eq_of_pairwise (le:=fun x y=>¬xQ y x) (fun a b ha hb h k=>aEQ (hok a (s2.subset ha)) (hok b (r2.subset hb)) k h) s3 r3 (s2.trans r2.symm)
 refine⟨R,?_,?_,r2⟩
 .rw[aCK];exact bs (aoF hn hb) (bs w1 (bs s1 (congrArg some e)))
 .rw[aC8];exact bs (aEf hn hb) (bs r1 rfl)
end Sh
end
section
open Go Go.Proofs aQ tQ
namespace Sh
set_option maxRecDepth 100000
attribute [local irreducible] j4
theorem ao5 (n:Nat):DI n (())=some true:=aAf n ()
theorem aE2 {U:Type}{c:Bool}{a b r:Option U}(h:c=true->a=r)(k:c=false->b=r):(bif c then a else b)=r:=by
 cases c
 .exact k rfl
 .exact h rfl
theorem ao6 (d:au):((d.b0==d.b0)&& ((d.b1==d.b1)&& ((d.b2==d.b2)&& ((d.b3==d.b3)&& ((d.b4==d.b4)&& ((d.b5==d.b5)&& ((d.b6==d.b6)&& ((d.b7==d.b7)&& ((d.b8==d.b8)&& ((d.b9==d.b9)&& ((d.b10==d.b10)&& ((d.b11==d.b11)&& ((d.b12==d.b12)&& ((d.b13==d.b13)&& ((d.b14==d.b14)&& ((d.b15==d.b15)&& true))))))))))))))))=true:=(BG d d).symm.trans ((KX _ _).2 rfl)
theorem aE3 {n:Nat}{l:List au}(hn:2^20<n)(hb:l.length<=65536):Pd n l=some (lq n l):=by rw[aCN];exact bs (Vy hn hb) rfl
end Sh
end
section
namespace Go.Proofs.YtdcnajadcbedkaaGreatDoor.daybook
open Go Go.ChangeShapes Go.WideShapes Go.ChangeAt Go.RowKit aQ Sh
set_option maxRecDepth 100000
theorem aE4 {l:List V}{v:V}(h:v∈l):nM v<=tH l:=by
 induction l with
 |nil=>cases h|cons x l ih=>
  rcases jr.1 h with rfl|h
  .show nM v<=nM v+tH l;omega
  .have:=ih h;show nM v<=nM x+tH l;omega
theorem af0 {U:Type}(f:U->V){l:List U}{x:U}(h:x∈l):nM (f x)<=tH (l.map f):=aE4 (List.mem_map_of_mem h)
theorem Qo {U:Type}(f:U->V)(hf:∀x,1<=nM (f x))(l:List U):l.length<=tH (l.map f):=by
 induction l with
 |nil=>exact pR _|cons x l ih=>have:=hf x;show l.length+1<=nM (f x)+tH (l.map f);omega
theorem ao7 (d:Def):d.Name.length+d.Words.length+1<=nM (Def.v d)/\∀w∈d.Words,w.length+1<=nM (Def.v d):=by have e:nM (Def.v d)=(d.Name.length+1)+(1+(1+(1+(tH (d.Words.map V.str)+1+0)))):=rfl;have h1:=Qo V.str (fun x=>by simp[nM]) d.Words;refine⟨RS,fun w hw=>?_⟩;have h2:=af0 V.str hw;have h3:nM (V.str w)=w.length+1:=rfl;omega
theorem aE5 {s:aM}{n k:Nat}(h:nM (aM.v s)<=k)(hk:k<n)(hk2:k<2^62):rF s n:=by have e:nM (aM.v s)=1+(1+(tH (s.Defs.map Def.v)+1+0)):=rfl;have h1:=Qo Def.v (fun x=>by have:=(ao7 x).1;omega) s.Defs;refine⟨RS,RS,fun d hd=>?_⟩;have h2:=af0 Def.v hd;have h3:=ao7 d;have h4:=h3.1;refine⟨RS,RS,RS,RS,fun w hw=>?_⟩;have:=h3.2 w hw;exact⟨RS,RS⟩
theorem ao8 (e:Sh.Event):e.Vec.length+e.aX.length+1<=nM (Event.v e):=by have h1:=Qo iv (fun x=>iR _) e.Vec;have h2:=Qo Attr.v (fun x=>by show 1<=(x.Name.length+1)+_;omega) e.aX;obtain⟨m,hm⟩:∃m,nM (Event.v e)=1+(1+(1+(1+(1+(1+(1+(tH (e.Vec.map iv)+1+(tH (e.aX.map Attr.v)+1+m)))))))):=⟨_,rfl⟩;omega
theorem af2 {l:List V}{v:V}(h:v∈l):jm v<=ni l:=by
 induction l with
 |nil=>cases h|cons x l ih=>
  rcases jr.1 h with rfl|h
  .show jm v<=jm v+ni l;omega
  .have:=ih h;show jm v<=jm x+ni l;omega
theorem af3 {U:Type}(f:U->V){l:List U}{x:U}(h:x∈l):jm (f x)<=ni (l.map f):=af2 (List.mem_map_of_mem h)
theorem Eb {n:Int}{k:Nat}(h:jm (V.int .i64 n)<=k)(hk:k<2^62):rI n:=by
 have h1:1+Jh .i64 n<=k:=h;have h2:=avE (k:=.i64) (n:=n) RS
 exact⟨h2.1,by have:=h2.2;have e:IntKind.max .i64=2^63-1:=aK
               rw[e] at this;omega⟩
theorem aE6 {l:List Int}{k:Nat}(h:jm (lv iv l)<=k)(hk:k<2^62):∀x∈l,rI x:=fun x hx=>by
 have h1:ni (l.map iv)+1<=k:=h;have h2:jm (V.int .i64 x)<=ni (l.map iv):=af3 iv hx;exact Eb (k:=k) RS hk
theorem aE7 {l:List Attr}{k:Nat}(h:jm (lv Attr.v l)<=k)(hk:k<2^62):∀a∈l,rI a.Kind/\rI a.N:=fun a ha=>by
 have h1:ni (l.map Attr.v)+1<=k:=h;have h2:jm (Attr.v a)<=ni (l.map Attr.v):=af3 Attr.v ha;have hm:∀v∈a.c,jm v<=k:=fun v hv=>eZ (af2 hv) (show ni a.c<=k from eZ h2 RS);exact⟨Eb (hm _ (by unfold Attr.c;simp)) hk,Eb (hm _ (by unfold Attr.c;simp)) hk⟩
theorem aE8 {e:Sh.Event}{k:Nat}(h:jm (Sh.Event.v e)<=k)(hk:k<2^62):afx e:=by
 have hm:∀v∈e.c,jm v<=k:=fun v hv=>eZ (af2 hv) h;exact⟨⟨Eb (hm _ Ec) hk,Eb (hm _ Ec) hk,Eb (hm _ Ec) hk,Eb (hm _ Ec) hk,Eb (hm _ Ec) hk⟩,
  aE6 (hm _ Ec) hk,aE7 (hm _ Ec) hk⟩
theorem aE9 {l:List Sh.Event}{n k:Nat}(h:ni (l.map Event.v)+1<=k)(hk:k<n)(hk2:k<2^62):l.length<n/\l.length<2^62/\∀e∈l,afz e n:=by have h0:=Tv (l.map Event.v);have h1:=Qo Event.v (fun x=>by have:=ao8 x;omega) l;refine⟨RS,RS,fun x hx=>?_⟩;have h2:=af0 Event.v hx;have h3:=ao8 x;exact⟨RS,RS,RS,RS,aE8 (k:=k) (eZ (af3 Event.v hx) RS) hk2⟩
end Go.Proofs.YtdcnajadcbedkaaGreatDoor.daybook
end
section
open Go Go.Proofs aQ tQ
namespace Sh
set_option maxRecDepth 100000
attribute [local irreducible] j4
theorem aFa (x:Int):rI (IntKind.wrap .i64 x):=by unfold rI;rw[IntKind.wrap_i64];omega
theorem Qp:∀(g g':Nat)(l:List au),l.length<g->l.length<g'->lq g l=lq g' l:=by
 intro g;induction g with
 |zero=>intro g' l h;omega|succ g ih=>
  intro g' l h h';obtain⟨g',rfl⟩:∃m,g'=m+1:=⟨g'-1,RS⟩;unfold lq;by_cases h0:l.length=0
  .rw[if_pos h0,if_pos h0]
  .rw[if_neg h0,if_neg h0];by_cases h1:l.length=1
   .rw[if_pos h1,if_pos h1]
   .rw[if_neg h1,if_neg h1];obtain⟨k1,k2⟩:=Oe (n:=l.length) RS;rw[ih g' (l.take (eH l.length)) og og,ih g' (l.drop (eH l.length)) nO nO]
theorem ao9 (p:List au)(d:au):rA (p++[d])=d:=by unfold rA;rw[List.getLast?_concat];rfl
theorem aFb {n:Nat}(hn:2^20<n){x:au}{root:List au->Option au}{split:Int->Option Int}(apa:∀l:List au,l.length<=65536->root l=some (lq n l))(aFc:∀k:Nat,2<=k->k<=65536->split ((k:Nat):Int)=some ((eH k:Nat):Int)):∀(g g2:Nat)(l:List au)(i:Nat)(p:List au),l.length<g->l.length<=g2->l.length<=65536->l[i]? =some x->xG root split g l (i:Int)=some p->
 Di Nu Dj x g2 (i:Int) (l.length:Int) p false=some (lq (l.length+1) l,([],false)):=by
 intro g;induction g with
 |zero=>intro g2 l i p h;omega|succ g ih=>
  intro g2 l i p h h2 hb hx hp;have hlt:=pI hx;obtain⟨g2,rfl⟩:∃m,g2=m+1:=⟨g2-1,RS⟩;rw[Vz] at hp;unfold Di;by_cases he:l.length=1
  .rw[show Nat.beq l.length 1=true by rw[he];rfl,cond_true] at hp;cases hp;rw[show ((l.length:Int)==1)=true by rw[beq_iff_eq];omega,cond_true];have hi:i=0:=RS
   subst hi;have:lq (l.length+1) l=x:=by
    unfold lq;rw[if_neg RS,if_pos he];cases l with
    |nil=>simp at he|cons a l=>simpa using hx
   rw[this]
  .have hne:Nat.beq l.length 1=false:=by
    cases hq:Nat.beq l.length 1 with
    |false=>rfl|true=>exact absurd (xZ hq) he
   have hn1:((l.length:Int)==1)=false:=by rw[beq_eq_false_iff_ne];omega
   obtain⟨k1,k2⟩:=Oe (n:=l.length) RS;have hk:decide ((0:Int)<=((eH l.length:Nat):Int)/\((eH l.length:Nat):Int)<=(l.length:Int))=true:=decide_eq_true ⟨RS,RS⟩;have hS:Dj (l.length:Int)=some ((eH l.length:Nat):Int):=by unfold Dj;rw[if_pos ⟨RS,RS⟩,Int.toNat_natCast]
   have hroot:lq (l.length+1) l=Vx (lq l.length (l.take (eH l.length))) (lq l.length (l.drop (eH l.length))):=by
    conv=>lhs;unfold lq
    rw[if_neg RS,if_neg he]
   rw[hne,cond_false,aFc _ RS RS,Option.bind_some,hk,cond_true] at hp;rw[hn1,cond_false,hS,Option.bind_some,hroot];cases hik:decide ((i:Int)< ((eH l.length:Nat):Int)) with
   |true=>have hik':=of_decide_eq_true hik;rw[hik,cond_true,Int.toNat_natCast,apa _ nO] at hp;obtain⟨p',hp1,hp2⟩:=iP.1 hp;cases hp2;have hx':(l.take (eH l.length))[i]? =some x:=(by rw[List.getElem?_take_of_lt RS];exact hx);have e:=ih g2 (l.take (eH l.length)) i p' og og og hx' hp1;rw[mO,Am RS] at e;rw[cond_true,List.dropLast_concat,show (p'++[lq n (l.drop (eH l.length))]).isEmpty=false by simp,Bool.or_false,e,Option.bind_some,ao9,Qp (eH l.length+1) l.length (l.take (eH l.length)) og og,Qp n l.length (l.drop (eH l.length)) nO nO];rfl
   |false=>have hik':=of_decide_eq_false hik;rw[hik,cond_false,Int.toNat_natCast,apa _ og,gX RS RS,show (i:Int)-((eH l.length:Nat):Int)=((i-eH l.length:Nat):Int) by omega] at hp;obtain⟨p',hp1,hp2⟩:=iP.1 hp;cases hp2;have hx':(l.drop (eH l.length))[i-eH l.length]? =some x:=(by rw[List.getElem?_drop,show eH l.length+(i-eH l.length)=i by omega];exact hx);have e:=ih g2 (l.drop (eH l.length)) (i-eH l.length) p' nO nO nO hx' hp1;rw[qj] at e;rw[cond_false,gX RS RS,gX RS RS,show (i:Int)-((eH l.length:Nat):Int)=((i-eH l.length:Nat):Int) by omega,show (l.length:Int)-((eH l.length:Nat):Int)=((l.length-eH l.length:Nat):Int) by omega,List.dropLast_concat,show (p'++[lq n (l.take (eH l.length))]).isEmpty=false by simp,Bool.or_false,e,Option.bind_some,ao9,Qp (l.length-eH l.length+1) l.length (l.drop (eH l.length)) nO nO,Qp n l.length (l.take (eH l.length)) og og];rfl
theorem aFd {n:Nat}(hn:2^20<n){l:List au}{i:Nat}{x:au}{p:List au}(hb:l.length<=65536)(hx:l[i]? =some x)(hpl:p.length<=65536)(hp:ZS n (l,(i:Int))=some (p,(0:Int))):DN n (x,((i:Int),((l.length:Int),(p,lq n l))))=some true:=by have hlt:=pI hx;have hm:DN n (x,((i:Int),((l.length:Int),(p,lq n l))))=Bl x (i:Int) (l.length:Int) p (lq n l):=aBl n _;rw[hm];rw[amR] at hp;unfold J9 at hp;rw[decide_eq_false (show¬(i:Int)<0 by omega),Bool.false_or,decide_eq_false (show¬(i:Int)>=(l.length:Int) by omega),cond_false,decide_eq_true (show l.length<2^29 by omega),cond_true] at hp;obtain⟨p',hp1,hp2⟩:=aY.1 hp;cases hp2;have e:=aFb hn (root:=Aa n) (split:=zT n) (fun l h=>Vy hn h) (fun k h h'=>Og h RS) (l.length+1) l.length l i p RS (iR _) hb hx hp1;unfold Bl;rw[if_pos RS];unfold Nt;rw[decide_eq_false (show¬(l.length:Int)<1 by omega),decide_eq_false (show¬(l.length:Int)>1099511627776 by omega),decide_eq_false (show¬(i:Int)<0 by omega),decide_eq_false (show¬(i:Int)>=(l.length:Int) by omega)];show (Di Nu Dj x (l.length:Int).toNat (i:Int) (l.length:Int) p false).map _=_;rw[Int.toNat_natCast,e,Option.map_some,Qp (l.length+1) n l RS RS,(KX _ _).2 rfl];rfl
theorem apb {n:Nat}{l:List au}{x:au}(h:l.length<n)(hb:l.length<2^62):∃b:Bool,Ku n (l,x)=some b/\(b=true↔x∈l):=by
 have:=J5 (L:=fun m i=>PU n l x m i) (l:=l) (fun d i r=>bif xB d x then some (.inr true) else r) (some (.inl ()))
  (fun m i d hd=>by have hlt:=pI hd;rw[aoc,iU hd,cond_true,fU RS,BG d x];exact bs (eG hd) rfl)
  (fun m=>by rw[aoc,zU];rfl) h
 rw[aCR,this,F4 (fun d:au=>xB d x) (fun i=>(Sum.inr true:PUnit⊕Bool)) (.inl ())];cases hf:l.findIdx? (fun d=>xB d x) with
 |none=>rw[List.findIdx?_eq_none_iff] at hf;refine⟨false,rfl,fun h=>cZ,fun h=>?_⟩;have:=hf x h;rw[(KX _ _).2 rfl] at this;cases this
 |some j=>obtain⟨hj,h2,_⟩:=List.findIdx?_eq_some_iff_getElem.1 hf;refine⟨true,rfl,fun _=>?_,fun _=>rfl⟩;rw[<-(KX _ _).1 h2];exact lM hj
theorem apc {l:List au}{x:au}{e:Int}{b:Bool}{P:Prop}{p:List au}(h:(e=0/\∃k:Nat,P/\l[k]? =some x)\/(e=5/\x∉l))(hb:b=true↔x∈l):(!(!((e==(0:Int))==b)))=true:=by
 rcases h with ⟨rfl,k,_,h⟩| ⟨rfl,h⟩
 .rw[hb.2 (tX h)];rfl
 .cases b with
  |true=>exact absurd (hb.1 rfl) h|false=>rfl
section
variable {n:Nat}{ev:List Event}{l:List Row}{V:List au}{x3:au}(hn:2^20<n)(hen:ev.length<n)(Ah:ev.length<2^62)(hl:l.length<=65536)(hr:∀r∈l,yZ r.Entry/\qI r.Entry.Vec r.Entry.aX)(hf:∀r∈l,¬pK ev r.Entry.ID<0)(hV:V.length<=65536)(apd:∀r∈l,∀d∈sF ev r,d∈V)
include hn hen Ah hl hr hf hV apd
theorem aFe (pu:List Row):∀(k i m:Nat),i+k=l.length->k<m->PX n ev x3 V (pu,l) (lq n V) m (i:Int)=some (.inl ()):=by
 intro k;induction k with
 |zero=>intro i m hi hm;obtain⟨m,rfl⟩:∃m',m=m'+1:=⟨m-1,RS⟩;rw[aof];exact kQ (decide_eq_false (by show¬(i:Int)< (l.length:Int);omega)) rfl
 |succ k ih=>
  intro i m hi hm;obtain⟨m,rfl⟩:∃m',m=m'+1:=⟨m-1,RS⟩;have hlt:i<l.length:=RS
  have hg:l[i]? =some l[i]:=fI hlt;have hmem:=lM hlt;generalize l[i]=r at hg hmem;obtain⟨q1,q2⟩:=hr r hmem;have h:=hf r hmem;obtain⟨j,e,e1,e2,_⟩:=VD h;have hI:aG ev (pK ev r.Entry.ID)=some e:=(congrArg (aG ev) e1).trans (eG e2);have hin:qc e.bE r.Entry∈V:=apd r hmem _ (by rw[VG e1 e2];exact iZ.2 rfl);have q3:yZ (⟨r.Entry.ID,r.Entry.iT,Go.IntKind.wrap .i64 (r.Entry.fM+(1:Int)),r.Entry.iF,r.Entry.From,r.Entry.To,r.Entry.jo,r.Entry.Vec,r.Entry.aX⟩:Entry):=⟨⟨q1.1.1,q1.1.2.1,aFa _,q1.1.2.2.2⟩,q1.2⟩;obtain⟨j1,p1,c1,w1,_,w3,w4⟩:=afI (n:=n) (l:=V) (x:=qc e.bE r.Entry) hn hV;obtain⟨j2,p2,c2,u1,_,_,u4⟩:=afI (n:=n) (l:=V) (x:=qc x3 r.Entry) hn hV;obtain⟨S9,p3,c3,v1,_,_,v4⟩:=afI (n:=n) (l:=V) (x:=qc e.bE (⟨r.Entry.ID,r.Entry.iT,Go.IntKind.wrap .i64 (r.Entry.fM+(1:Int)),r.Entry.iF,r.Entry.From,r.Entry.To,r.Entry.jo,r.Entry.Vec,r.Entry.aX⟩:Entry)) hn hV;obtain⟨b2,i1,i2⟩:=apb (n:=n) (l:=V) (x:=qc x3 r.Entry) RS RS;obtain⟨b3,k1,k2⟩:=apb (n:=n) (l:=V) (x:=qc e.bE (⟨r.Entry.ID,r.Entry.iT,Go.IntKind.wrap .i64 (r.Entry.fM+(1:Int)),r.Entry.iF,r.Entry.From,r.Entry.To,r.Entry.jo,r.Entry.Vec,r.Entry.aX⟩:Entry)) RS RS;have z2:=apc (p:=p2) (P:=True) (u4.imp (fun ⟨a,k,_,b,_⟩=>⟨a,k,trivial,b⟩) (fun ⟨a,b,_⟩=>⟨a,b⟩)) i2;have z3:=apc (p:=p3) (P:=True) (v4.imp (fun ⟨a,k,_,b,_⟩=>⟨a,k,trivial,b⟩) (fun ⟨a,b,_⟩=>⟨a,b⟩)) k2;obtain⟨rfl,kk,rfl,hk,hinc⟩:c1=0/\∃k:Nat,j1=(k:Int)/\V[k]? =some (qc e.bE r.Entry)/\ZS n (V,j1)=some (p1,(0:Int)):=by
   rcases w4 with h| ⟨_,h,_⟩
   .exact h
   .exact absurd hin h
  rw[aof,fU RS];refine iV (iU hg) (bs (eG hg) (bs (afJ hen Ah) (kQ (decide_eq_false h) (bs hI (bs (eG hg) (bs (P6 e.bE q1 q2 hn) (bs w1 (iV rfl (bs hI (bs (eG hg) (bs (a:=true) ?_ (kQ rfl ?_))))))))))))
  .rw[aCQ];exact bs (P6 e.bE q1 q2 hn) (bs (aFd hn hV hk w3 hinc) rfl)
  .refine bs (eG hg) (bs (eG hg) (bs (P6 x3 q1 q2 hn) (bs hI (bs (P6 e.bE q3 q2 hn) (bs u1 (bs v1 (bs i1 (iV z2 (bs k1 (iV z3 (bs (eG hg) (bs (afv x3 q1 q2 hn) (iV ?_ (bs hI (bs (afv e.bE q3 q2 hn) (kQ ?_ (ih (i+1) m RS RS)))))))))))))))))
   .exact congrArg (fun c=>!(!c)) (ao6 _)
   .exact congrArg (fun c=>!c) (ao6 _)
end
theorem ape {ev:List Event}:∀l:List Row,(∀r∈l,¬pK ev r.Entry.ID<0)->(l.flatMap (sF ev)).length=l.length
 | [],_=>aD|r::l,h=>by obtain⟨j,e,e1,e2,_⟩:=VD (h r (jv ..));have:=ape (ev:=ev) l (fun x hx=>h x (jT _ hx));rw[kT,fG,List.length_cons,VG e1 e2,this,List.length_singleton];omega
theorem aFf {n:Nat}{x1:aM}{x2:List Event}{x3:au}(hn2:2^20<n)(hs:rF x1 n)(hl:x2.length<n)(hb:x2.length<2^62)(he:∀e∈x2,afz e n):Pn n (x1,(x2,x3))=some true:=by
 obtain⟨q,hq,q1,_⟩:=aD6 (n:=n) (s:=x1) (l:=x2) hn2 hs hl hb he;rw[aCW];refine bs hq (aE2 (fun _=>bs (ao5 n) rfl) (fun hc=>?_));have hq2:q.2=true:=by
  cases h:q.2 with
  |true=>rfl|false=>rw[h] at hc;simp at hc
 obtain⟨_,hrun,hsm⟩:=q1 hq2;have hB:nu n x1 q.1:=(mM.ok hn2 hs (afG n x1) hsm hrun).1;have hfil:∀r∈q.1.Rows,¬pK x2 r.Entry.ID<0:=fun r hr=>by
  rcases mM.filed hn2 hs (afG n x1) hsm hrun r hr with ⟨x,hx,_⟩| ⟨e,he,k1,k2⟩
  .cases hx
  .rw[<-k2];exact aEi he k1
 obtain⟨V,V1,V2,apf⟩:=aE1 (ev:=x2) hn2 hB hl hb;have hvf:∀r∈qJ q.1,¬pK x2 r.Entry.ID<0:=fun r hr=>hfil r (afZ hr);have hlen:V.length=(qJ q.1).length:=by rw[apf.length_eq];exact ape _ hvf
 have hvl:=ao4 hB;have apg:V.length<=65536:=RS
 have hloop:=aFe (x3:=x3) hn2 hl hb hvl (fun r hr=>ao3 hB (afZ hr)) hvf apg (fun r hr d hd=>apf.mem_iff.2 (List.mem_flatMap.2 ⟨r,hr,hd⟩)) (VB q.1) (qJ q.1).length 0 n RS RS;refine bs V1 (bs (aoF hn2 hB) (bs (aE3 hn2 apg) (kQ ?_ (bs hloop (bs (ao5 n) rfl)))));show ((V.length:Int) !=(((qJ q.1).length:Nat):Int))=false;rw[hlen];simp
end Sh
end
