import Derived.Test.YtgdialomgeijcaaGreatF3929
set_option linter.all false
section
open Go Go.Proofs Aq Pq
namespace Sh
theorem ak2 {t:Int->List Bool}:∀{S:List Int}{y:Int},y∈S->t (y-1)≠t y->y∈RS t S
 |z::S,y,h,hn=>by
  unfold RS;rcases PG.1 h with rfl|h
  .rw[show (t (y-1)==t y)=false from by simpa using hn];exact PI ..
  .cases (t (z-1)==t z) with
   |true=>exact ak2 h hn|false=>exact PK _ (ak2 h hn)
theorem ak3 {t:Int->List Bool}:∀{S:List Int}{y:Int},y∈RS t S->y∈S
 |z::S,y,h=>by
  unfold RS at h;cases hz:(t (z-1)==t z) with
  |true=>rw[hz] at h;exact PK _ (ak3 h)|false=>
   rw[hz] at h;rcases PG.1 h with rfl|h
   .exact PI ..
   .exact PK _ (ak3 h)
theorem awq {d:Def}{l:List Pred}(hle:d.Lo<=d.Hi){u:Int}(h:u∈Yp d l):d.Lo<=u/\u<=d.Hi:=by
 unfold Yp at h;rcases PG.1 h with rfl|h
 .exact⟨PZ _,hle⟩
 .have:=acS ((acX u _).1 (ak3 h));omega
theorem ao7 {d:Def}{l:List Pred}:∀(k:Nat)(v:Int),v=d.Lo+k->v<=d.Hi->∃u∈Yp d l,Sw d.Name l u=Sw d.Name l v
 |0,v,h,_=>⟨d.Lo,PI ..,by rw[h];congr 1;omega⟩|k+1,v,h,hv=>by
  by_cases ht:Sw d.Name l v=Sw d.Name l (v-1)
  .obtain⟨u,h1,h2⟩:=ao7 (d:=d) (l:=l) k (v-1) (by omega) (by omega);exact⟨u,h1,h2.trans ht.symm⟩
  .refine⟨v,PK _ (ak2 ((acX v _).2 (aob (by omega) hv ht)) fun e=>ht e.symm),rfl⟩
theorem ao8 {said:List UInt8->Bool}:∀{ws:List (List UInt8)}{o:Bool}{w:List UInt8},w∈ws->said w=true->w∈VX said o ws
 |z::ws,o,w,h,hs=>by
  unfold VX;rcases PG.1 h with rfl|h
  .rw[hs];exact QF _ (PI ..)
  .exact QI _ (ao8 h hs)
theorem ao9 {said:List UInt8->Bool}:∀{ws:List (List UInt8)}{w:List UInt8},w∈ws->said w=false->∃u∈VX said false ws,said u=false
 |z::ws,w,h,hs=>by
  unfold VX;cases hz:said z with
  |false=>exact⟨z,QF _ (by simp),hz⟩|true=>
   rcases PG.1 h with rfl|h
   .rw[hz] at hs;cases hs
   .obtain⟨u,h1,h2⟩:=ao9 h hs;exact⟨u,QI _ h1,h2⟩
theorem apa {said:List UInt8->Bool}:∀{ws:List (List UInt8)}{o:Bool}{w:List UInt8},w∈VX said o ws->w∈ws
 |z::ws,o,w,h=>by
  unfold VX at h;rcases QT.1 h with h|h
  .cases hb:(bif said z then true else !o) with
   |true=>rw[hb] at h;rw[Qc.1 h];exact PI ..|false=>rw[hb] at h;cases h
  .exact PK _ (apa h)
def OkA (d:Def)(a:Attr):Prop:=a.Name=d.Name/\a.Kind=d.Kind/\(d.Kind=1->a.S=[]/\d.Lo<=a.N/\a.N<=d.Hi)/\(d.Kind≠1->a.N=0/\a.S∈d.Words)
theorem afZ {d:Def}{l:List Pred}(hle:d.Lo<=d.Hi){o:Option Attr}(h:o∈Vi d l):∀a,o=some a->OkA d a:=by
 rintro a rfl;unfold Vi at h;rcases PG.1 h with h|h
 .cases h
 .by_cases hk:d.Kind=1
  .rw[if_pos hk] at h;obtain⟨v,hv,e⟩:=Qo.1 h;cases e;exact⟨rfl,rfl,fun _=>⟨rfl,awq hle hv⟩,fun hn=>absurd hk hn⟩
  .rw[if_neg hk] at h;obtain⟨w,hw,e⟩:=Qo.1 h;cases e;exact⟨rfl,rfl,fun hn=>absurd hn hk,fun _=>⟨rfl,apa hw⟩⟩
theorem awr {nm:List UInt8}{l:List Pred}{u v:Int}(h:Sw nm l u=Sw nm l v){q:Pred}(hq:q∈l)(hi:TP nm q=true):U8 q u=U8 q v:=by
 unfold Sw at h;have hm:q∈l.filter (TP nm):=QO.2 ⟨hq,hi⟩;generalize l.filter (TP nm)=L at h hm;induction L with
 |nil=>cases hm|cons x L ih=>
  simp only[PO,Qa] at h;rcases PG.1 hm with rfl|hm
  .exact h.1
  .exact ih h.2 hm
theorem apb {nm:List UInt8}{l:List Pred}{w:List UInt8}(h:VF nm l w=false){q:Pred}(hq:q∈l)(hi:isW nm q=true):(w==q.S)=false:=by
 unfold VF at h;have:=List.any_eq_false.1 h q hq;rw[hi] at this;have h2:(q.S==w)=false:=by simpa using this
 have:q.S≠w:=by simpa using h2
 simpa using fun e:w=q.S=>this e.symm
theorem awt {d:Def}{l:List Pred}(hk:d.Kind=1\/d.Kind=2){o:Option Attr}(ho:∀a,o=some a->OkA d a):∃o'∈Vi d l,∀q∈l,q.Name=d.Name->WY q o=WY q o':=by
 cases o with
 |none=>exact⟨none,PI ..,fun _ _ _=>rfl⟩
 |some a=>
  obtain⟨h1,h2,h3,h4⟩:=ho a rfl;rcases hk with hk|hk
  .obtain⟨_,h5,h6⟩:=h3 hk;obtain⟨u,hu,he⟩:=ao7 (d:=d) (l:=l) (a.N-d.Lo).toNat a.N (by omega) h6;refine⟨some ⟨d.Name,d.Kind,u,[]⟩,?_,fun q hq hn=>?_⟩
   .unfold Vi;rw[if_pos hk];exact PK _ (Qo.2 ⟨u,hu,rfl⟩)
   .unfold WY;dsimp only;rw[h2,hk];by_cases q6:q.Op=6
    .have hi:TP d.Name q=true:=(by unfold TP;rw[q6,hn];simp);have e:=awr he hq hi;unfold U8 at e;have e':(decide (a.N>=q.N)&& decide (a.N<=q.M))=(decide (u>=q.N)&& decide (u<=q.M)):=(by revert e;cases decide (u>=q.N)<;>cases decide (u<=q.M)<;>cases decide (a.N>=q.N)<;>cases decide (a.N<=q.M)<;>simp);rw[Bool.and_assoc,Bool.and_assoc,e'];simp[q6]
    .by_cases q5:q.Op=5
     .rw[if_pos q5,if_pos q5];rfl
     .rw[if_neg q5,if_neg q5,if_neg q6,if_neg q6];rfl
  .obtain⟨_,h5⟩:=h4 (by omega);have h1k:d.Kind≠1:=by omega
   have rep:∃w∈aaC d l,∀q∈l,isW d.Name q=true->(a.S==q.S)=(w==q.S):=by
    cases hs:VF d.Name l a.S with
    |true=>exact⟨a.S,ao8 h5 hs,fun _ _ _=>rfl⟩
    |false=>obtain⟨w,hw,hsw⟩:=ao9 h5 hs;exact⟨w,hw,fun q hq hi=>(apb hs hq hi).trans (apb hsw hq hi).symm⟩
   obtain⟨w,hw,hr⟩:=rep;refine⟨some ⟨d.Name,d.Kind,0,w⟩,?_,fun q hq hn=>?_⟩
   .unfold Vi;rw[if_neg h1k];exact PK _ (Qo.2 ⟨w,hw,rfl⟩)
   .unfold WY;dsimp only;rw[h2,hk];by_cases q7:q.Op=7
    .have hi:isW d.Name q=true:=(by unfold isW;rw[q7,hn];simp);rw[hr q hq hi];simp[q7]
    .by_cases q5:q.Op=5
     .rw[if_pos q5,if_pos q5];rfl
     .rw[if_neg q5,if_neg q5,if_neg q7,if_neg q7];simp
def WZ (d:Def)(a:Attr):Int:=
 if a.Kind≠d.Kind then 130 else if a.Kind=1 then (if a.S≠[] then 3 else if a.N<d.Lo\/a.N>d.Hi then 131 else 0) else if a.N≠0 then 3 else if d.Words.any (· ==a.S) then 0 else 131
theorem awu {n:Nat}{d:Def}{a:Attr}(hw:d.Words.length<n)(hb:d.Words.length<2^62):Xe n (d,a)=some (WZ d a):=by
 rw[at1];unfold WZ;by_cases h1:a.Kind=d.Kind
 .rw[show (a.Kind !=d.Kind)=false by simp[h1],cond_false,if_neg (by simp[h1])];by_cases h2:a.Kind=1
  .rw[show (a.Kind==(1:Int))=true by simp[h2],cond_true,if_pos h2];by_cases h3:a.S=[]
   .rw[show (!(a.S==[]))=false by simp[h3],cond_false,if_neg (by simp[h3])];by_cases h4:a.N<d.Lo
    .rw[decide_eq_true h4,cond_true,cond_true,if_pos (.inl h4)]
    .rw[decide_eq_false h4,cond_false];by_cases h5:a.N>d.Hi
     .rw[decide_eq_true h5,cond_true,if_pos (.inr h5)]
     .rw[decide_eq_false h5,cond_false,if_neg (by rintro (h|h);exact h4 h;exact h5 h)]
   .rw[show (!(a.S==[]))=true by simp[h3],cond_true,if_pos h3]
  .rw[show (a.Kind==(1:Int))=false by simp[h2],cond_false,if_neg h2];by_cases h3:a.N=0
   .rw[show (a.N !=(0:Int))=false by simp[h3],cond_false,if_neg (by simp[h3])];refine bs (aoH hw hb) ?_;cases d.Words.any (· ==a.S)<;>rfl
   .rw[show (a.N !=(0:Int))=true by simp[h3],cond_true,if_pos h3]
 .rw[show (a.Kind !=d.Kind)=true by simp[h1],cond_true,if_pos h1]
theorem val_ok {d:Def}{a:Attr}(h:WZ d a=0)(hn:a.Name=d.Name):OkA d a:=by
 unfold WZ at h;by_cases h1:a.Kind=d.Kind
 .rw[if_neg (by simp[h1])] at h;refine⟨hn,h1,fun hk=>?_,fun hk=>?_⟩
  .rw[if_pos (by rw[h1];exact hk)] at h;by_cases h3:a.S=[]
   .rw[if_neg (by simp[h3])] at h;by_cases h4:a.N<d.Lo\/a.N>d.Hi
    .rw[if_pos h4] at h;cases h
    .exact⟨h3,by omega,by omega⟩
   .rw[if_pos h3] at h;cases h
  .rw[if_neg (by rw[h1];exact hk)] at h;by_cases h3:a.N=0
   .rw[if_neg (by simp[h3])] at h;refine⟨h3,?_⟩;cases hw:d.Words.any (· ==a.S) with
    |false=>rw[hw] at h;cases h|true=>obtain⟨w,h1,h2⟩:=List.any_eq_true.1 hw;have:w=a.S:=(by simpa using h2);exact this▸h1
   .rw[if_pos h3] at h;cases h
 .rw[if_pos h1] at h;cases h
theorem awv {d:Def}{a:Attr}(h:OkA d a):WZ d a=0:=by
 obtain⟨_,h1,h2,h3⟩:=h;unfold WZ;rw[if_neg (by simp[h1])];by_cases hk:d.Kind=1
 .obtain⟨h4,h5,h6⟩:=h2 hk;rw[if_pos (by rw[h1];exact hk),if_neg (by simp[h4]),if_neg (by omega)]
 .obtain⟨h4,h5⟩:=h3 hk;rw[if_neg (by rw[h1];exact hk),if_neg (by simp[h4]),if_pos];exact List.any_eq_true.2 ⟨a.S,h5,by simp⟩
def acZ (o:Option (List UInt8))(x:List UInt8):Bool:=match o with
 |some y=>Go.Op.bytesLess x y||(x==y)|none=>false
def UM (s:Ri):Option (List UInt8)->List Attr->Int
 |_,[]=>0|o,a::l=>match s.Defs.find? (fun d=>d.Name==a.Name) with
  |none=>5|some d=>bif acZ o a.Name then 6 else if WZ d a=0 then UM s (some a.Name) l else WZ d a
def abT (l:List Attr)(i:Nat):Option (List UInt8):=if i=0 then none else (l[i-1]?).map (·.Name)
def ac0 (e:Int):PUnit⊕Int:=if e=0 then .inl () else .inr e
theorem aww {n:Nat}{s:Ri}(hs:aaE s n){l:List Attr}(hb:l.length<2^62):∀(k i m:Nat),i+k=l.length->k<m->abM n s l m (i:Int)=some (ac0 (UM s (abT l i) (l.drop i))):=by
 intro k;induction k with
 |zero=>
  intro i m hi hm;obtain⟨m,rfl⟩:∃m',m=m'+1:=⟨m-1,by omega⟩;obtain rfl:i=l.length:=by omega
  rw[anK,UL,cond_false,List.drop_length];rfl
 |succ k ih=>
  intro i m hi hm;obtain⟨m,rfl⟩:∃m',m=m'+1:=⟨m-1,by omega⟩;have hlt:i<l.length:=by omega
  have hx:l[i]? =some l[i]:=PX hlt;have hi2:=ih (i+1) m (by omega) (by omega);have hp:abT l (i+1)=some l[i].Name:=by unfold abT;rw[if_neg (by omega),Nat.add_sub_cancel,hx];rfl
  rw[hp] at hi2;rw[Qd hlt];generalize l[i]=a at hx hi2⊢;rw[anK,Uc hx,cond_true];refine bs (Te hx) (bs (awn hs.1 hs.2.1) ?_);have hg:=afu (fun d:Def=>d.Name==a.Name) s.Defs;unfold findD UM;cases hf:s.Defs.findIdx? (fun d=>d.Name==a.Name) with
  |none=>rw[hf] at hg;rw[<-hg];rfl|some j=>
   rw[hf] at hg;dsimp only at hg⊢;obtain⟨hj,_⟩:=List.findIdx?_eq_some_iff_findIdx_eq.1 hf;have hdj:s.Defs[j]? =some s.Defs[j]:=PX hj;rw[hdj] at hg;rw[<-hg];have hmem:s.Defs[j]∈s.Defs:=Qw hj;generalize s.Defs[j]=d at hdj hmem⊢;obtain⟨_,_,w1,w2,_⟩:=hs.2.2 d hmem;rw[decide_eq_false (show¬((j:Int)<0) by omega),cond_false,T9 (by omega)];have fin:(Fb s.Defs (j:Int)).bind (fun r8:Def=>(Fb l (i:Int)).bind fun r9:Attr=>(Xe n (r8,r9)).bind fun RU:Int=>bif RU !=(0:Int) then some (.inr RU) else abM n s l m (((i+1:Nat):Int)))=some (ac0 (if WZ d a=0 then UM s (some a.Name) (l.drop (i+1)) else WZ d a)):=by
    refine bs (Te hdj) (bs (Te hx) (bs (awu w1 w2) ?_));by_cases hv:WZ d a=0
    .rw[if_pos hv,hv];exact hi2
    .rw[if_neg hv,show (WZ d a !=(0:Int))=true by simpa using hv,cond_true];unfold ac0;rw[if_neg hv]
   by_cases h0:i=0
   .have e0:abT l i=none:=(by unfold abT;rw[if_pos h0]);rw[e0,decide_eq_false (show¬((i:Int)>0) by omega),cond_false];exact fin
   .obtain⟨i',rfl⟩:∃i',i=i'+1:=⟨i-1,by omega⟩;have hx2:l[i']? =some l[i']:=PX (by omega);have e0:abT l (i'+1)=some l[i'].Name:=(by unfold abT;rw[if_neg (by omega),Nat.add_sub_cancel,hx2];rfl);rw[e0,decide_eq_true (show (((i'+1:Nat):Int)>0) by omega),cond_true];refine bs (Te hx) ?_;have hw:IntKind.wrap .i64 (((i'+1:Nat):Int)-(1:Int))=(i':Int):=(by rw[IntKind.wrap_i64];omega);rw[hw];refine bs (Te hx2) ?_;show (bif (Go.Op.bytesLess a.Name l[i'].Name||(a.Name==l[i'].Name)) then _ else _)=some (ac0 (bif acZ (some l[i'].Name) a.Name then 6 else _));unfold acZ;dsimp only;cases (Go.Op.bytesLess a.Name l[i'].Name||(a.Name==l[i'].Name)) with
    |true=>rfl|false=>exact fin
theorem apc {n:Nat}{s:Ri}(hs:aaE s n){l:List Attr}(hb:l.length<2^62)(hn:l.length<n):Zy n (s,l)=some (UM s none l):=by
 rw[at5];refine bs (aww (n:=n) hs hb l.length 0 n (by omega) hn) ?_;show Sum.elim _ _ (ac0 (UM s none l))=_;unfold ac0;by_cases h:UM s none l=0
 .rw[if_pos h,h];rfl
 .rw[if_neg h];rfl
def VZ (x y:List UInt8):Prop:=(Go.Op.bytesLess y x||(y==x))=false
theorem awx (x y:UInt8)(a b:List UInt8):Go.Op.bytesLess (x::a) (y::b)=(decide (x<y)||(x==y&& Go.Op.bytesLess a b)):=rfl
theorem awy {x y:UInt8}{a b:List UInt8}:VZ (x::a) (y::b)↔x.toNat<y.toNat\/(x=y/\VZ a b):=by
 unfold VZ;rw[awx];have h1:(y<x)↔y.toNat<x.toNat:=UInt8.lt_iff_toNat_lt;have h2:(x=y)↔x.toNat=y.toNat:=⟨fun h=>h▸rfl,UInt8.toNat.inj⟩;have h3:(y=x)↔y.toNat=x.toNat:=⟨fun h=>h▸rfl,UInt8.toNat.inj⟩;have h4:((y::b)==(x::a))=((y==x)&& (b==a)):=rfl;rw[h4];by_cases e:y=x
 .subst e;simp
 .have e':¬y.toNat=x.toNat:=fun h=>e (h3.2 h);have e2:¬x=y:=fun h=>e h.symm;rw[show (y==x)=false by simpa using e];simp only[Bool.false_and,Bool.or_false,e2,false_and,or_false];rw[decide_eq_false_iff_not,h1];omega
theorem awz {y:List UInt8}:VZ [] y↔y≠[]:=by
 cases y with
 |nil=>exact⟨fun h=>(by cases h),fun h=>absurd rfl h⟩
 |cons c y=>exact⟨fun _ h=>(by cases h),fun _=>rfl⟩
theorem apd {x:List UInt8}:¬VZ x []:=by
 cases x with
 |nil=>intro h;cases h|cons c x=>intro h;cases h
theorem ak4:∀{x y z:List UInt8},VZ x y->VZ y z->VZ x z
 |x,[],z,h,_=>absurd h apd|_,_::_,[],_,h=>absurd h apd| [],y::ys,z::zs,_,_=>awz.2 (by simp)|x::xs,y::ys,z::zs,h1,h2=>by
  rw[awy] at*;rcases h1 with h1| ⟨rfl,h1⟩
  .rcases h2 with h2| ⟨rfl,h2⟩
   .exact .inl (by omega)
   .exact .inl h1
  .rcases h2 with h2| ⟨rfl,h2⟩
   .exact .inl h2
   .exact .inr ⟨rfl,ak4 h1 h2⟩
theorem af0 {x y:List UInt8}(h:VZ x y):x≠y:=by rintro rfl;unfold VZ at h;simp at h
def Asc:List UInt8->List Def->Prop
 |_,[]=>True|x,d::ds=>VZ x d.Name/\Asc d.Name ds
theorem Asc.weak:∀{ds:List Def}{x y:List UInt8},VZ x y->Asc y ds->Asc x ds
 | [],_,_,_,_=>trivial|d::ds,x,y,h,h2=>⟨ak4 h h2.1,h2.2⟩
theorem Asc.filter {p:Def->Bool}:∀{ds:List Def}{x:List UInt8},Asc x ds->Asc x (ds.filter p)
 | [],_,_=>trivial|d::ds,x,h=>by
  rw[List.filter_cons];cases p d with
  |true=>exact⟨h.1,h.2.filter⟩|false=>exact(h.2.filter).weak h.1
theorem Asc.all:∀{ds:List Def}{x:List UInt8},Asc x ds->∀d∈ds,VZ x d.Name
 |e::ds,x,h,d,hd=>by
  rcases PG.1 hd with rfl|hd2
  .exact h.1
  .exact ak4 h.1 (h.2.all d hd2)
theorem Asc.uniq:∀{ds:List Def}{x:List UInt8},Asc x ds->∀d∈ds,∀e∈ds,d.Name=e.Name->d=e
 |f::ds,x,h,d,hd,e,he,hn=>by
  rcases PG.1 hd with h1|h1
  .rcases PG.1 he with h2|h2
   .exact h1.trans h2.symm
   .exact absurd (h1▸hn) (af0 (h.2.all e h2))
  .rcases PG.1 he with h2|h2
   .exact absurd (h2▸hn.symm) (af0 (h.2.all d h1))
   .exact h.2.uniq d h1 e h2 hn
theorem ChD.asc {n:Nat}:∀{ds:List Def}{x:List UInt8},ChD n x ds->Asc x ds
 | [],_,_=>trivial|d::ds,x,h=>⟨h.1.1,h.2.asc⟩
theorem ape {s:Ri}:∀{l:List Attr}{o:Option (List UInt8)},UM s o l=0->∀a∈l,∃d∈s.Defs,d.Name=a.Name/\OkA d a
 |b::l,o,h,a,ha=>by
  unfold UM at h;cases hf:s.Defs.find? (fun d=>d.Name==b.Name) with
  |none=>rw[hf] at h;cases h|some d=>
   rw[hf] at h;dsimp only at h;have hd:=List.mem_of_find?_eq_some hf;have hn:d.Name=b.Name:=by simpa using List.find?_some hf
   cases hu:acZ o b.Name with
   |true=>rw[hu] at h;cases h|false=>
    rw[hu,cond_false] at h;by_cases hv:WZ d b=0
    .rw[if_pos hv] at h;rcases PG.1 ha with e|ha2
     .rw[e];exact⟨d,hd,hn,val_ok hv hn.symm⟩
     .exact ape h a ha2
    .rw[if_neg hv] at h;exact absurd h hv
def Cho (L:List Pred):List Def->List (Option Attr)->Prop
 | [],[]=>True|d::ds,o::os=>o∈Vi d L/\Cho L ds os|_,_=>False
theorem apf {L:List Pred}:∀{ds:List Def}{os:List (Option Attr)},Cho L ds os->Pick ((ds.map fun d=>Vi d L).map (List.map Uk)) (os.map Uk)
 | [],[],_=>trivial| [],_::_,h=>h.elim|_::_,[],h=>h.elim|d::ds,o::os,h=>⟨Qo.2 ⟨o,h.1,rfl⟩,apf h.2⟩
theorem apg {L:List Pred}:∀{ds:List Def}{xs:List Q6},Pick ((ds.map fun d=>Vi d L).map (List.map Uk)) xs->∃os,Cho L ds os/\xs=os.map Uk
 | [],[],_=>⟨[],trivial,rfl⟩| [],_::_,h=>h.elim|_::_,[],h=>h.elim|d::ds,x::xs,h=>by obtain⟨o,h1,h2⟩:=Qo.1 h.1;obtain⟨os,h3,h4⟩:=apg h.2;exact⟨o::os,⟨h1,h3⟩,by rw[PO,h2,h4]⟩
theorem af2:∀os:List (Option Attr),(os.map Uk).flatMap UY=os.filterMap id
 | []=>rfl|none::os=>by rw[PO,P6,af2 os];rfl|some a::os=>by rw[PO,P6,af2 os];rfl
theorem ak5 {L:List Pred}:∀{ds:List Def}{os:List (Option Attr)}{x:List UInt8},Asc x ds->(∀d∈ds,d.Lo<=d.Hi)->Cho L ds os->∀a∈os.filterMap id,VZ x a.Name
 | [],[],_,_,_,_,a,ha=>by cases ha| [],_::_,_,_,_,h,_,_=>h.elim|_::_,[],_,_,_,h,_,_=>h.elim|d::ds,none::os,x,hA,hle,h,a,ha=>by exact ak5 (hA.2.weak hA.1) (fun e he=>hle e (PK _ he)) h.2 a ha
 |d::ds,some b::os,x,hA,hle,h,a,ha=>by
  have ha:a∈b::os.filterMap id:=ha;have hb:=(afZ (hle d (PI ..)) h.1 b rfl).1;rcases PG.1 ha with e|ha2
  .rw[e,hb];exact hA.1
  .exact ak5 (hA.2.weak hA.1) (fun e he=>hle e (PK _ he)) h.2 a ha2
theorem awC {l:List Attr}{x:List UInt8}(h:∀a∈l,a.Name≠x):TY l x=none:=by unfold TY;exact List.find?_eq_none.2 fun a ha=>by simpa using h a ha
theorem awD {l:List Attr}{b:Attr}{x:List UInt8}(h:b.Name≠x):TY (b::l) x=TY l x:=by unfold TY;rw[List.find?_cons,show (b.Name==x)=false by simpa using h]
theorem awE {l:List Attr}{b:Attr}{x:List UInt8}(h:b.Name=x):TY (b::l) x=some b:=by unfold TY;rw[List.find?_cons,show (b.Name==x)=true by simpa using h]
def Rep (L:List Pred)(l:List Attr):List Def->List (Option Attr)->Prop
 | [],[]=>True|d::ds,o::os=>(∀q∈L,q.Name=d.Name->WY q (TY l d.Name)=WY q o)/\Rep L l ds os|_,_=>False
theorem aph {L:List Pred}{l:List Attr}:∀ds:List Def,(∀d∈ds,d.Kind=1\/d.Kind=2)->(∀d∈ds,∀a,TY l d.Name=some a->OkA d a)->∃os,Cho L ds os/\Rep L l ds os
 | [],_,_=>⟨[],trivial,trivial⟩|d::ds,h1,h2=>by obtain⟨o,g1,g2⟩:=awt (l:=L) (h1 d (PI ..)) (o:=TY l d.Name) (h2 d (PI ..));obtain⟨os,g3,g4⟩:=aph ds (fun e he=>h1 e (PK _ he)) (fun e he=>h2 e (PK _ he));exact⟨o::os,⟨g1,g3⟩,⟨g2,g4⟩⟩
theorem apj {L:List Pred}{l:List Attr}:∀{ds:List Def}{os:List (Option Attr)}{x:List UInt8},Asc x ds->(∀d∈ds,d.Lo<=d.Hi)->Cho L ds os->Rep L l ds os->∀d∈ds,∀q∈L,q.Name=d.Name->WY q (TY l d.Name)=WY q (TY (os.filterMap id) d.Name)
 | [],[],_,_,_,_,_,d,hd,_,_,_=>by cases hd| [],_::_,_,_,_,h,_,_,_,_,_,_=>h.elim|_::_,[],_,_,_,h,_,_,_,_,_,_=>h.elim|e::ds,o::os,x,hA,hle,hc,hr,d,hd,q,hq,hn=>by
  have hle2:∀f∈ds,f.Lo<=f.Hi:=fun f hf=>hle f (PK _ hf);rcases PG.1 hd with h1|h1
  .subst h1;have key:TY ((o::os).filterMap id) d.Name=o:=by
    cases o with
    |none=>exact awC fun a ha=>(af0 (ak5 hA.2 hle2 hc.2 a ha)).symm
    |some b=>exact awE (afZ (hle d (PI ..)) hc.1 b rfl).1
   rw[key];exact hr.1 q hq hn
  .have key:TY ((o::os).filterMap id) d.Name=TY (os.filterMap id) d.Name:=by
    cases o with
    |none=>rfl|some b=>exact awD (by rw[(afZ (hle e (PI ..)) hc.1 b rfl).1];exact af0 (hA.2.all d h1))
   rw[key];exact apj hA.2 hle2 hc.2 hr.2 d h1 q hq hn
theorem ak7 {s:Ri}{L:List Pred}(hs:Asc [] s.Defs):∀{ds:List Def}{os:List (Option Attr)}{x:List UInt8}{o:Option (List UInt8)},Asc x ds->(∀d∈ds,d.Lo<=d.Hi)->(∀d∈ds,d∈s.Defs)->(∀y,o=some y->∀z,VZ x z->VZ y z)->Cho L ds os->UM s o (os.filterMap id)=0
 | [],[],_,_,_,_,_,_,_=>rfl| [],_::_,_,_,_,_,_,_,h=>h.elim|_::_,[],_,_,_,_,_,_,h=>h.elim|d::ds,none::os,x,o,hA,hle,hm,ho,h=>by show UM s o (os.filterMap id)=0;exact ak7 hs (hA.2.weak hA.1) (fun e he=>hle e (PK _ he)) (fun e he=>hm e (PK _ he)) ho h.2
 |d::ds,some b::os,x,o,hA,hle,hm,ho,h=>by
  show UM s o (b::os.filterMap id)=0;have hok:=afZ (hle d (PI ..)) h.1 b rfl;have hmd:=hm d (PI ..);have hf:s.Defs.find? (fun e=>e.Name==b.Name)=some d:=by
   cases hf:s.Defs.find? (fun e=>e.Name==b.Name) with
   |none=>exact absurd (List.find?_eq_none.1 hf d hmd) (by rw[hok.1];simp)|some e=>have he:=List.mem_of_find?_eq_some hf;have hn:e.Name=b.Name:=(by simpa using List.find?_some hf);rw[hs.uniq e he d hmd (hn.trans hok.1)]
  have hu:acZ o b.Name=false:=by
   unfold acZ;cases o with
   |none=>rfl|some y=>rw[hok.1];exact ho y rfl d.Name hA.1
  unfold UM;rw[hf];dsimp only;rw[hu,cond_false,if_pos (awv hok)];refine ak7 hs (x:=d.Name) hA.2 (fun e he=>hle e (PK _ he)) (fun e he=>hm e (PK _ he)) (fun y hy z hz=>?_) h.2;cases hy;rw[hok.1];exact hz
theorem XZ.asc {n:Nat}{s:Ri}(h:XZ n s):Asc [] s.Defs:=h.chain.asc
theorem apk {s:Ri}:∀{l:List Pred},(abg s l).getD 0=0->(∀x∈l,abf s x≠some 0)->∀x∈l,abf s x=none
 |y::l,h,hz,x,hx=>by
  rw[abg] at h;cases hc:abf s y with
  |some e=>rw[hc] at h;have h:e=0:=h;subst h;exact absurd hc (hz y (PI ..))|none=>
   rw[hc] at h;rcases PG.1 hx with e|h2
   .rw[e];exact hc
   .exact apk h (fun z hz2=>hz z (PK _ hz2)) x h2
theorem awF {s:Ri}{x:Pred}:abf s x≠some 0:=by
 unfold abf;split
 .intro h;cases h
 .split
  .intro h;cases h
  .split
   .intro h;cases h
   .split
    .intro h;cases h
    .split
     .intro h;cases h
     .intro h;cases h
theorem awG {s:Ri}{p:Pred}(h:Ud s p=0):∀q∈pre p,5<=q.Op->∃d∈s.Defs,d.Name=q.Name:=by
 have hsz:=aoZ h;unfold Ud at h;split at h
 .cases h
 .rw[Qu (by rw[WB];omega)] at h;intro q hq h5;have hc:=apk h (fun x _=>awF) q hq;unfold abf at hc;split at hc
  .cases hc
  .split at hc
   .cases hc
   .rw[if_neg (by omega)] at hc;split at hc
    .cases hc
    .rename_i d hf;exact⟨d,List.mem_of_find?_eq_some hf,by simpa using List.find?_some hf⟩
def ac1 (s:Ri)(l:List Pred):List Def:=s.Defs.filter fun d=>l.any (VY d.Name)
theorem awH {n:Nat}{s:Ri}{p:Pred}{l:List Attr}(hS:XZ n s)(hn:800<n)(hc:Ud s p=0)(hf:UM s none l=0):∃k,k<Rv ((Un s (pre p)).map (List.map Uk))/\Sb (R5 k (Rv ((Un s (pre p)).map (List.map Uk))) ((Un s (pre p)).map (List.map Uk))) p=Sb l p:=by
 have hdd:=fun d hd=>hS.defs hn (d:=d) hd;have hA:=hS.asc;have hsub:∀d∈ac1 s (pre p),d∈s.Defs:=fun d hd=>(QO.1 hd).1;have hle:∀d∈ac1 s (pre p),d.Lo<=d.Hi:=fun d hd=>(hdd d (hsub d hd)).le;obtain⟨os,h1,h2⟩:=aph (L:=pre p) (l:=l) (ac1 s (pre p)) (fun d hd=>(hdd d (hsub d hd)).kind) (fun d hd a ha=>by
  have ham:a∈l:=List.mem_of_find?_eq_some ha;have han:a.Name=d.Name:=by simpa using List.find?_some ha
  obtain⟨e,he,hen,hok⟩:=ape hf a ham;rw[hA.uniq d (hsub d hd) e he (han.symm.trans hen.symm)];exact hok)
 obtain⟨k,hk,e⟩:=ao3 _ _ (apf h1) (akZ s (pre p));refine⟨k,hk,?_⟩;have e2:R5 k (Rv ((Un s (pre p)).map (List.map Uk))) ((Un s (pre p)).map (List.map Uk))=os.filterMap id:=by rw[<-af2];exact e
 rw[e2];refine(ao5 p fun q hq h5=>?_).symm;obtain⟨d,hd,hdn⟩:=awG hc q hq h5;have hdm:d∈ac1 s (pre p):=by refine QO.2 ⟨hd,List.any_eq_true.2 ⟨q,hq,?_⟩⟩;unfold VY;rw[decide_eq_true h5,cond_true,hdn];simp
 have:=apj (hA.filter (p:=fun d=>(pre p).any (VY d.Name))) hle h1 h2 d hdm q hq hdn.symm;rw[hdn] at this;exact this
theorem awK {n:Nat}{s:Ri}{p:Pred}(hS:XZ n s)(hn:800<n){k:Nat}(hk:k<Rv ((Un s (pre p)).map (List.map Uk))):UM s none (R5 k (Rv ((Un s (pre p)).map (List.map Uk))) ((Un s (pre p)).map (List.map Uk)))=0:=by have hdd:=fun d hd=>hS.defs hn (d:=d) hd;have hA:=hS.asc;have hsub:∀d∈ac1 s (pre p),d∈s.Defs:=fun d hd=>(QO.1 hd).1;obtain⟨xs,h1,h2⟩:=ao4 _ k (akZ s (pre p)) hk;obtain⟨os,h3,h4⟩:=apg (ds:=ac1 s (pre p)) h1;rw[h2,h4,af2];exact ak7 hA (hA.filter (p:=fun d=>(pre p).any (VY d.Name))) (fun d hd=>(hdd d (hsub d hd)).le) hsub (fun y h=>by cases h) h3
theorem awL {n:Nat}{s:Ri}{p:Pred}(hS:XZ n s)(hd:s.Defs.length<n)(hn:6000<n)(hp:RF p<n)(hp2:RF p<2^62):∃(L:List Attr) (b:Bool) (e:Int),Xi n (s,p)=some (L,(b,e))/\L.length<=16/\(e≠0->L=[]/\b=false)/\ (e=0->b=true->L=[]/\∀l,UM s none l=0->Sb l p=false)/\(e=0->b=false->Sb L p=true/\UM s none L=0):=by
 have hf:=hS.few;have hC:Zm n (s,p)=some (Ud s p):=akW (n:=n) (s:=s) (p:=p) hp2 hd (by omega);rw[auO];simp only[Pred.Td];by_cases he:Ud s p=0
 .have hsz:=aoZ he;have hch:=he;rw[he] at hC;have hdd:=fun d hd=>hS.defs (by omega) (d:=d) hd;have hT:=awf (n:=n) (by omega) (p:=p) hdd (by omega) hf;have hlen:((Un s (pre p)).map (List.map Uk)).length<=16:=by rw[PY];exact PD (aoW ..) hf
  have hpos:=akZ s (pre p);have hrow:∀c∈(Un s (pre p)).map (List.map Uk),c.length<2^30:=fun c hc=>by obtain⟨c',hc',rfl⟩:=Qo.1 hc;rw[PY];exact aoX hdd (by rw[WB];omega) hc'
  have hcnt:=amM (n:=n) (t:=(Un s (pre p)).map (List.map Uk)) (by omega) (by omega) hrow;have hcs:=aoY ((Un s (pre p)).map (List.map Uk)) 1 hpos (by omega) (by omega);have hrep:=fun l hl=>awH (p:=p) (l:=l) hS (by omega) hch hl;have hfit:=fun k hk=>awK (p:=p) (k:=k) hS (by omega) hk;generalize (Un s (pre p)).map (List.map Uk)=t at hT hlen hpos hrow hcnt hcs hrep hfit;by_cases hbig:VR 1 (t.map List.length)>4096
  .refine⟨[],false,2,bs hC ?_,Qk _,fun _=>⟨rfl,rfl⟩,fun h=>absurd h (by decide),fun h=>absurd h (by decide)⟩;show (bif false then _ else _)=_;rw[cond_false];refine bs hT (bs hcnt ?_);rw[decide_eq_true hbig];rfl
  .have hprod:Rv t<=4096:=by have:=hcs (by show VR 1 (t.map List.length)<=4096;omega);omega
   have hO:abG t p=some (VN (fun l=>Sb l p) t):=by unfold abG;rw[if_pos ⟨by omega,hpos,hprod,hp2⟩]
   have hL:=awo (fun l=>Sb l p) t;refine⟨(VN (fun l=>Sb l p) t).1,(VN (fun l=>Sb l p) t).2,0,bs hC ?_,by omega,fun h=>absurd rfl h,fun _=>?_,fun _=>?_⟩
   .show (bif false then _ else _)=_;rw[cond_false];refine bs hT (bs hcnt ?_);rw[decide_eq_false hbig,cond_false];exact bs ((atD n (t,p)).trans hO) rfl
   .unfold VN;cases hfi:(List.range (Rv t)).find? (fun k=>Sb (R5 k (Rv t) t) p) with
    |some k=>intro h;cases h|none=>intro _;refine⟨rfl,fun l hl=>?_⟩;obtain⟨k,hk,e⟩:=hrep l hl;have:=List.find?_eq_none.1 hfi k (List.mem_range.2 hk);rw[<-e];simpa using this
   .unfold VN;cases hfi:(List.range (Rv t)).find? (fun k=>Sb (R5 k (Rv t) t) p) with
    |some k=>intro _;have h1:=List.find?_some hfi;have h1:Sb (R5 k (Rv t) t) p=true:=h1;exact⟨h1,hfit k (List.mem_range.1 (List.mem_of_find?_eq_some hfi))⟩|none=>intro h;cases h
 .have e0:(Ud s p !=(0:Int))=true:=by simpa using he
  refine⟨[],false,Ud s p,bs hC ?_,Qk _,fun _=>⟨rfl,rfl⟩,fun h=>absurd h he,fun h=>absurd h he⟩;rw[e0];rfl
theorem awM {n:Nat}{s:Ri}{a b:Pred}(hs:aaE s n)(hx:RF a+RF b+2<n)(hx2:RF a+RF b+2<2^62)(hn:6000<n):∃o,Xr n (s,(a,b))=some o/\(o=true->XZ n s):=by
 obtain⟨b1,h1⟩:=av5 hs (by omega);obtain⟨b2,h2⟩:=aoj (n:=n) (p:=a) (k:=100) (by omega) (by omega);obtain⟨b3,h3⟩:=aoj (n:=n) (p:=b) (k:=100) (by omega) (by omega);rw[atZ];simp only[Pred.Td];cases hc:(bif bif !b1 then true else !b2 then true else !b3);case true=>exact⟨false,bs h1 (bs h2 (bs h3 (by rw[hc];rfl))),fun h=>by cases h⟩
 case false=>
  cases b1<;>cases b2<;>cases b3<;>try cases hc
  have hS:=awc hs.2.1 h1;have s2:=ao1 (by omega) (by omega) h2;have s3:=ao1 (by omega) (by omega) h3;have hC:=awm (n:=n) (by omega) (p:=⟨2,[],0,0,[],[a,b]⟩) hS (by simp only[RF,Wx];omega);generalize VR 1 ((Un s (pre ⟨2,[],0,0,[],[a,b]⟩)).map List.length)=cv at hC;refine⟨(bif decide (cv<=(600:Int)) then true else decide (cv> (4096:Int))),bs h1 (bs h2 (bs h3 ?_)),fun _=>hS⟩;show (bif false then _ else _)=_;rw[cond_false];refine bs (atT n a b) ?_;simp only[Pred.Td];exact bs hC rfl
theorem awN (l:List Attr)(a b:Pred):Sb l (andNot a b)=(Sb l a&& !Sb l b):=by unfold andNot;simp[Sb,aaq,anyS]
theorem awO {n:Nat}{s:Ri}{a b:Pred}(hS:XZ n s)(hd:s.Defs.length<n)(hn:6000<n)(hp:RF a+RF b+2<n)(hp2:RF a+RF b+2<2^62):∃(L:List Attr) (x:Bool) (e:Int),ZB n (s,(a,b))=some (L,(x,e))/\L.length<=16/\(e≠0->L=[]/\x=false)/\ (e=0->x=true->L=[]/\∀l,UM s none l=0->(Sb l a&& !Sb l b)=false)/\(e=0->x=false->(Sb L a&& !Sb L b)=true/\UM s none L=0):=by
 have hf:=hS.few;have hCa:Zm n (s,a)=some (Ud s a):=akW (n:=n) (s:=s) (p:=a) (by omega) hd (by omega);have hCb:Zm n (s,b)=some (Ud s b):=akW (n:=n) (s:=s) (p:=b) (by omega) hd (by omega);obtain⟨L,x,e,h1,h2,h3,h4,h5⟩:=awL (n:=n) (s:=s) (p:=andNot a b) hS hd hn (by rw[ao0];exact hp) (by rw[ao0];exact hp2);simp only[awN] at h4 h5;have hL2:=awp (n:=n) (s:=s) (a:=a) (b:=b) hCa hCb (by omega);rw[auP];by_cases ha:Ud s a=0
 .by_cases hb:Ud s b=0
  .refine⟨L,x,e,bs hL2 ?_,h2,h3,h4,h5⟩;rw[if_pos ha,if_pos hb];show (Xs n b.re).bind _=_;refine bs (aui n b.re) ?_;simp only[Pred.Td];exact bs h1 rfl
  .exact⟨[],false,Ud s b,bs hL2 (by rw[if_pos ha,if_neg hb];rfl),Qk _,fun _=>⟨rfl,rfl⟩,fun h=>absurd h hb,fun h=>absurd h hb⟩
 .exact⟨[],false,Ud s a,bs hL2 (by rw[if_neg ha];rfl),Qk _,fun _=>⟨rfl,rfl⟩,fun h=>absurd h ha,fun h=>absurd h ha⟩
theorem awP {n:Nat}{s:Ri}{a b:Pred}{l:List Attr}(hs:aaE s n)(hx:6*(RF a+RF b+2)<n)(hx2:RF a+RF b+2<2^62)(hl:l.length<n)(hl2:l.length<2^62)(hn:6000<n):Xj n (s,(a,(b,l)))=some true:=by
 have aeu:Xc n ()=some true:=asG n ();obtain⟨o,ho,hb⟩:=awM (n:=n) (s:=s) (a:=a) (b:=b) hs (by omega) (by omega) hn;rw[auQ];simp only[Pred.Td];refine bs ho ?_;cases o with
 |false=>refine bs (show TM (!(!false)) (Zy n (s,l)) (0:Int)=some (0:Int) from rfl) ?_;exact bs aeu rfl|true=>
  have hS:=hb rfl;refine bs (show TM (!(!true)) (Zy n (s,l)) (0:Int)=some (UM s none l) from apc hs hl2 hl) ?_;by_cases hf:UM s none l=0
  .rw[hf];show (bif false then _ else _)=_;rw[cond_false];obtain⟨L,x,e,k1,k2,k3,k4,k5⟩:=awO (n:=n) (s:=s) (a:=a) (b:=b) hS hs.1 hn (by omega) (by omega);refine bs k1 ?_;by_cases he:e=0
   .rw[show (e !=(0:Int))=false by simpa using he,cond_false];cases x with
    |true=>
     obtain⟨hL,hall⟩:=k4 he rfl;subst hL;rw[cond_true];refine bs aeu ?_;refine bs (show TM (bif true then ((([]:List Attr).length:Nat):Int)==(0:Int) else false) (ZD n (a,l)) false=some (Sb l a) from adH hl hl2 (by omega) (by omega)) ?_;have hq:=hall l hf;cases ha:Sb l a with
     |false=>rfl|true=>rw[ha] at hq;have hbb:Sb l b=true:=(by simpa using hq);refine bs (show TM _ (ZD n (b,l)) false=some (Sb l b) from adH hl hl2 (by omega) (by omega)) ?_;rw[hbb];rfl
    |false=>obtain⟨h1,h2⟩:=k5 he rfl;have ha:Sb L a=true:=(by cases h:Sb L a<;>rw[h] at h1<;>simp_all);have hbb:Sb L b=false:=(by cases h:Sb L b<;>rw[h] at h1<;>simp_all);rw[cond_false];refine bs aeu ?_;refine bs (show TM true (ZD n (a,L)) false=some true by show ZD n (a,L)=_;rw[<-ha];exact adH (by omega) (by omega) (by omega) (by omega)) ?_;refine bs (show TM (bif true then true else false) (ZD n (b,L)) false=some false by show ZD n (b,L)=_;rw[<-hbb];exact adH (by omega) (by omega) (by omega) (by omega)) ?_;refine bs (show TM (bif bif true then true else false then !false else false) (Zy n (s,L)) (0:Int)=some (0:Int) by show Zy n (s,L)=_;exact(apc hs (by omega) (by omega)).trans (by rw[h2])) ?_;rfl
   .obtain⟨hL,hb2⟩:=k3 he;subst hL;subst hb2;rw[show (e !=(0:Int))=true by simpa using he,cond_true];exact bs aeu rfl
  .have e0:(UM s none l !=(0:Int))=true:=by simpa using hf
   rw[e0];exact bs aeu rfl
end Sh
end
