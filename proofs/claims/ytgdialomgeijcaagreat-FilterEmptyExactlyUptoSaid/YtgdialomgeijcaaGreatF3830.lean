import Derived.Test.YtgdialomgeijcaaGreatF3829
set_option linter.all false
section
open Go Go.Proofs Aq Pq
namespace Sh
theorem akP {t:Int->List Bool}:∀{S:List Int}{y:Int},y∈S->t (y-1)≠t y->y∈RS t S
 |z::S,y,h,hn=>by
  unfold RS;rcases PG.1 h with rfl|h
  .rw[show (t (y-1)==t y)=false from by simpa using hn];exact PI ..
  .cases (t (z-1)==t z) with
   |true=>exact akP h hn|false=>exact PK _ (akP h hn)
theorem akQ {t:Int->List Bool}:∀{S:List Int}{y:Int},y∈RS t S->y∈S
 |z::S,y,h=>by
  unfold RS at h;cases hz:(t (z-1)==t z) with
  |true=>rw[hz] at h;exact PK _ (akQ h)|false=>
   rw[hz] at h;rcases PG.1 h with rfl|h
   .exact PI ..
   .exact PK _ (akQ h)
theorem av4 {d:Def}{l:List Pred}(hle:d.Lo<=d.Hi){u:Int}(h:u∈Yl d l):d.Lo<=u/\u<=d.Hi:=by
 unfold Yl at h;rcases PG.1 h with rfl|h
 .exact⟨PZ _,hle⟩
 .have:=acP ((acU u _).1 (akQ h));omega
theorem aoR {d:Def}{l:List Pred}:∀(k:Nat)(v:Int),v=d.Lo+k->v<=d.Hi->∃u∈Yl d l,Sv d.Name l u=Sv d.Name l v
 |0,v,h,_=>⟨d.Lo,PI ..,by rw[h];congr 1;omega⟩|k+1,v,h,hv=>by
  by_cases ht:Sv d.Name l v=Sv d.Name l (v-1)
  .obtain⟨u,h1,h2⟩:=aoR (d:=d) (l:=l) k (v-1) (by omega) (by omega);exact⟨u,h1,h2.trans ht.symm⟩
  .refine⟨v,PK _ (akP ((acU v _).2 (anX (by omega) hv ht)) fun e=>ht e.symm),rfl⟩
theorem aoS {said:List UInt8->Bool}:∀{ws:List (List UInt8)}{o:Bool}{w:List UInt8},w∈ws->said w=true->w∈VT said o ws
 |z::ws,o,w,h,hs=>by
  unfold VT;rcases PG.1 h with rfl|h
  .rw[hs];exact QF _ (PI ..)
  .exact QI _ (aoS h hs)
theorem aoT {said:List UInt8->Bool}:∀{ws:List (List UInt8)}{w:List UInt8},w∈ws->said w=false->∃u∈VT said false ws,said u=false
 |z::ws,w,h,hs=>by
  unfold VT;cases hz:said z with
  |false=>exact⟨z,QF _ (by simp),hz⟩|true=>
   rcases PG.1 h with rfl|h
   .rw[hz] at hs;cases hs
   .obtain⟨u,h1,h2⟩:=aoT h hs;exact⟨u,QI _ h1,h2⟩
theorem aoU {said:List UInt8->Bool}:∀{ws:List (List UInt8)}{o:Bool}{w:List UInt8},w∈VT said o ws->w∈ws
 |z::ws,o,w,h=>by
  unfold VT at h;rcases QT.1 h with h|h
  .cases hb:(bif said z then true else !o) with
   |true=>rw[hb] at h;rw[Qc.1 h];exact PI ..|false=>rw[hb] at h;cases h
  .exact PK _ (aoU h)
def OkA (d:Def)(a:Attr):Prop:=a.Name=d.Name/\a.Kind=d.Kind/\(d.Kind=1->a.S=[]/\d.Lo<=a.N/\a.N<=d.Hi)/\(d.Kind≠1->a.N=0/\a.S∈d.Words)
theorem afU {d:Def}{l:List Pred}(hle:d.Lo<=d.Hi){o:Option Attr}(h:o∈Vh d l):∀a,o=some a->OkA d a:=by
 rintro a rfl;unfold Vh at h;rcases PG.1 h with h|h
 .cases h
 .by_cases hk:d.Kind=1
  .rw[if_pos hk] at h;obtain⟨v,hv,e⟩:=Qo.1 h;cases e;exact⟨rfl,rfl,fun _=>⟨rfl,av4 hle hv⟩,fun hn=>absurd hk hn⟩
  .rw[if_neg hk] at h;obtain⟨w,hw,e⟩:=Qo.1 h;cases e;exact⟨rfl,rfl,fun hn=>absurd hn hk,fun _=>⟨rfl,aoU hw⟩⟩
theorem av5 {nm:List UInt8}{l:List Pred}{u v:Int}(h:Sv nm l u=Sv nm l v){q:Pred}(hq:q∈l)(hi:TN nm q=true):U6 q u=U6 q v:=by
 unfold Sv at h;have hm:q∈l.filter (TN nm):=QO.2 ⟨hq,hi⟩;generalize l.filter (TN nm)=L at h hm;induction L with
 |nil=>cases hm|cons x L ih=>
  simp only[PO,Qa] at h;rcases PG.1 hm with rfl|hm
  .exact h.1
  .exact ih h.2 hm
theorem aoV {nm:List UInt8}{l:List Pred}{w:List UInt8}(h:VE nm l w=false){q:Pred}(hq:q∈l)(hi:isW nm q=true):(w==q.S)=false:=by
 unfold VE at h;have:=List.any_eq_false.1 h q hq;rw[hi] at this;have h2:(q.S==w)=false:=by simpa using this
 have:q.S≠w:=by simpa using h2
 simpa using fun e:w=q.S=>this e.symm
theorem av6 {d:Def}{l:List Pred}(hk:d.Kind=1\/d.Kind=2){o:Option Attr}(ho:∀a,o=some a->OkA d a):∃o'∈Vh d l,∀q∈l,q.Name=d.Name->WX q o=WX q o':=by
 cases o with
 |none=>exact⟨none,PI ..,fun _ _ _=>rfl⟩
 |some a=>
  obtain⟨h1,h2,h3,h4⟩:=ho a rfl;rcases hk with hk|hk
  .obtain⟨_,h5,h6⟩:=h3 hk;obtain⟨u,hu,he⟩:=aoR (d:=d) (l:=l) (a.N-d.Lo).toNat a.N (by omega) h6;refine⟨some ⟨d.Name,d.Kind,u,[]⟩,?_,fun q hq hn=>?_⟩
   .unfold Vh;rw[if_pos hk];exact PK _ (Qo.2 ⟨u,hu,rfl⟩)
   .unfold WX;dsimp only;rw[h2,hk];by_cases q6:q.Op=6
    .have hi:TN d.Name q=true:=(by unfold TN;rw[q6,hn];simp);have e:=av5 he hq hi;unfold U6 at e;have e':(decide (a.N>=q.N)&& decide (a.N<=q.M))=(decide (u>=q.N)&& decide (u<=q.M)):=(by revert e;cases decide (u>=q.N)<;>cases decide (u<=q.M)<;>cases decide (a.N>=q.N)<;>cases decide (a.N<=q.M)<;>simp);rw[Bool.and_assoc,Bool.and_assoc,e'];simp[q6]
    .by_cases q5:q.Op=5
     .rw[if_pos q5,if_pos q5];rfl
     .rw[if_neg q5,if_neg q5,if_neg q6,if_neg q6];rfl
  .obtain⟨_,h5⟩:=h4 (by omega);have h1k:d.Kind≠1:=by omega
   have rep:∃w∈aay d l,∀q∈l,isW d.Name q=true->(a.S==q.S)=(w==q.S):=by
    cases hs:VE d.Name l a.S with
    |true=>exact⟨a.S,aoS h5 hs,fun _ _ _=>rfl⟩
    |false=>obtain⟨w,hw,hsw⟩:=aoT h5 hs;exact⟨w,hw,fun q hq hi=>(aoV hs hq hi).trans (aoV hsw hq hi).symm⟩
   obtain⟨w,hw,hr⟩:=rep;refine⟨some ⟨d.Name,d.Kind,0,w⟩,?_,fun q hq hn=>?_⟩
   .unfold Vh;rw[if_neg h1k];exact PK _ (Qo.2 ⟨w,hw,rfl⟩)
   .unfold WX;dsimp only;rw[h2,hk];by_cases q7:q.Op=7
    .have hi:isW d.Name q=true:=(by unfold isW;rw[q7,hn];simp);rw[hr q hq hi];simp[q7]
    .by_cases q5:q.Op=5
     .rw[if_pos q5,if_pos q5];rfl
     .rw[if_neg q5,if_neg q5,if_neg q7,if_neg q7];simp
def WY (d:Def)(a:Attr):Int:=
 if a.Kind≠d.Kind then 130 else if a.Kind=1 then (if a.S≠[] then 3 else if a.N<d.Lo\/a.N>d.Hi then 131 else 0) else if a.N≠0 then 3 else if d.Words.any (· ==a.S) then 0 else 131
theorem av7 {n:Nat}{d:Def}{a:Attr}(hw:d.Words.length<n)(hb:d.Words.length<2^62):Xd n (d,a)=some (WY d a):=by
 rw[atH];unfold WY;by_cases h1:a.Kind=d.Kind
 .rw[show (a.Kind !=d.Kind)=false by simp[h1],cond_false,if_neg (by simp[h1])];by_cases h2:a.Kind=1
  .rw[show (a.Kind==(1:Int))=true by simp[h2],cond_true,if_pos h2];by_cases h3:a.S=[]
   .rw[show (!(a.S==[]))=false by simp[h3],cond_false,if_neg (by simp[h3])];by_cases h4:a.N<d.Lo
    .rw[decide_eq_true h4,cond_true,cond_true,if_pos (.inl h4)]
    .rw[decide_eq_false h4,cond_false];by_cases h5:a.N>d.Hi
     .rw[decide_eq_true h5,cond_true,if_pos (.inr h5)]
     .rw[decide_eq_false h5,cond_false,if_neg (by rintro (h|h);exact h4 h;exact h5 h)]
   .rw[show (!(a.S==[]))=true by simp[h3],cond_true,if_pos h3]
  .rw[show (a.Kind==(1:Int))=false by simp[h2],cond_false,if_neg h2];by_cases h3:a.N=0
   .rw[show (a.N !=(0:Int))=false by simp[h3],cond_false,if_neg (by simp[h3])];refine bs (aos hw hb) ?_;cases d.Words.any (· ==a.S)<;>rfl
   .rw[show (a.N !=(0:Int))=true by simp[h3],cond_true,if_pos h3]
 .rw[show (a.Kind !=d.Kind)=true by simp[h1],cond_true,if_pos h1]
theorem val_ok {d:Def}{a:Attr}(h:WY d a=0)(hn:a.Name=d.Name):OkA d a:=by
 unfold WY at h;by_cases h1:a.Kind=d.Kind
 .rw[if_neg (by simp[h1])] at h;refine⟨hn,h1,fun hk=>?_,fun hk=>?_⟩
  .rw[if_pos (by rw[h1];exact hk)] at h;by_cases h3:a.S=[]
   .rw[if_neg (by simp[h3])] at h;by_cases h4:a.N<d.Lo\/a.N>d.Hi
    .rw[if_pos h4] at h;cases h
    .exact⟨h3,by omega,by omega⟩
   .rw[if_pos h3] at h;cases h
  .rw[if_neg (by rw[h1];exact hk)] at h;by_cases h3:a.N=0
   .rw[if_neg (by simp[h3])] at h;refine⟨h3,?_⟩;cases hw:d.Words.any (· ==a.S) with
    |false=>rw[hw] at h;cases h|true=>obtain⟨w,h1,h2⟩:=List.any_eq_true.1 hw;have:w=a.S:=(by simpa using h2);exact this▸h1
   .rw[if_pos h3] at h;cases h
 .rw[if_pos h1] at h;cases h
theorem av8 {d:Def}{a:Attr}(h:OkA d a):WY d a=0:=by
 obtain⟨_,h1,h2,h3⟩:=h;unfold WY;rw[if_neg (by simp[h1])];by_cases hk:d.Kind=1
 .obtain⟨h4,h5,h6⟩:=h2 hk;rw[if_pos (by rw[h1];exact hk),if_neg (by simp[h4]),if_neg (by omega)]
 .obtain⟨h4,h5⟩:=h3 hk;rw[if_neg (by rw[h1];exact hk),if_neg (by simp[h4]),if_pos];exact List.any_eq_true.2 ⟨a.S,h5,by simp⟩
def acW (o:Option (List UInt8))(x:List UInt8):Bool:=match o with
 |some y=>Go.Op.bytesLess x y||(x==y)|none=>false
def U7 (s:Rk):Option (List UInt8)->List Attr->Int
 |_,[]=>0|o,a::l=>match s.Defs.find? (fun d=>d.Name==a.Name) with
  |none=>5|some d=>bif acW o a.Name then 6 else if WY d a=0 then U7 s (some a.Name) l else WY d a
def abP (l:List Attr)(i:Nat):Option (List UInt8):=if i=0 then none else (l[i-1]?).map (·.Name)
def acX (e:Int):PUnit⊕Int:=if e=0 then .inl () else .inr e
theorem av9 {n:Nat}{s:Rk}(hs:aaA s n){l:List Attr}(hb:l.length<2^62):∀(k i m:Nat),i+k=l.length->k<m->abI n s l m (i:Int)=some (acX (U7 s (abP l i) (l.drop i))):=by
 intro k;induction k with
 |zero=>
  intro i m hi hm;obtain⟨m,rfl⟩:∃m',m=m'+1:=⟨m-1,by omega⟩;obtain rfl:i=l.length:=by omega
  rw[anv,UK,cond_false,List.drop_length];rfl
 |succ k ih=>
  intro i m hi hm;obtain⟨m,rfl⟩:∃m',m=m'+1:=⟨m-1,by omega⟩;have hlt:i<l.length:=by omega
  have hx:l[i]? =some l[i]:=PX hlt;have hi2:=ih (i+1) m (by omega) (by omega);have hp:abP l (i+1)=some l[i].Name:=by unfold abP;rw[if_neg (by omega),Nat.add_sub_cancel,hx];rfl
  rw[hp] at hi2;rw[Qd hlt];generalize l[i]=a at hx hi2⊢;rw[anv,Ub hx,cond_true];refine bs (Tg hx) (bs (av2 hs.1 hs.2.1) ?_);have hg:=afp (fun d:Def=>d.Name==a.Name) s.Defs;unfold findD U7;cases hf:s.Defs.findIdx? (fun d=>d.Name==a.Name) with
  |none=>rw[hf] at hg;rw[<-hg];rfl|some j=>
   rw[hf] at hg;dsimp only at hg⊢;obtain⟨hj,_⟩:=List.findIdx?_eq_some_iff_findIdx_eq.1 hf;have hdj:s.Defs[j]? =some s.Defs[j]:=PX hj;rw[hdj] at hg;rw[<-hg];have hmem:s.Defs[j]∈s.Defs:=Qw hj;generalize s.Defs[j]=d at hdj hmem⊢;obtain⟨_,_,w1,w2,_⟩:=hs.2.2 d hmem;rw[decide_eq_false (show¬((j:Int)<0) by omega),cond_false,TY (by omega)];have fin:(Fb s.Defs (j:Int)).bind (fun r8:Def=>(Fb l (i:Int)).bind fun r9:Attr=>(Xd n (r8,r9)).bind fun R6:Int=>bif R6 !=(0:Int) then some (.inr R6) else abI n s l m (((i+1:Nat):Int)))=some (acX (if WY d a=0 then U7 s (some a.Name) (l.drop (i+1)) else WY d a)):=by
    refine bs (Tg hdj) (bs (Tg hx) (bs (av7 w1 w2) ?_));by_cases hv:WY d a=0
    .rw[if_pos hv,hv];exact hi2
    .rw[if_neg hv,show (WY d a !=(0:Int))=true by simpa using hv,cond_true];unfold acX;rw[if_neg hv]
   by_cases h0:i=0
   .have e0:abP l i=none:=(by unfold abP;rw[if_pos h0]);rw[e0,decide_eq_false (show¬((i:Int)>0) by omega),cond_false];exact fin
   .obtain⟨i',rfl⟩:∃i',i=i'+1:=⟨i-1,by omega⟩;have hx2:l[i']? =some l[i']:=PX (by omega);have e0:abP l (i'+1)=some l[i'].Name:=(by unfold abP;rw[if_neg (by omega),Nat.add_sub_cancel,hx2];rfl);rw[e0,decide_eq_true (show (((i'+1:Nat):Int)>0) by omega),cond_true];refine bs (Tg hx) ?_;have hw:IntKind.wrap .i64 (((i'+1:Nat):Int)-(1:Int))=(i':Int):=(by rw[IntKind.wrap_i64];omega);rw[hw];refine bs (Tg hx2) ?_;show (bif (Go.Op.bytesLess a.Name l[i'].Name||(a.Name==l[i'].Name)) then _ else _)=some (acX (bif acW (some l[i'].Name) a.Name then 6 else _));unfold acW;dsimp only;cases (Go.Op.bytesLess a.Name l[i'].Name||(a.Name==l[i'].Name)) with
    |true=>rfl|false=>exact fin
theorem aoW {n:Nat}{s:Rk}(hs:aaA s n){l:List Attr}(hb:l.length<2^62)(hn:l.length<n):Zy n (s,l)=some (U7 s none l):=by
 rw[atI];refine bs (av9 (n:=n) hs hb l.length 0 n (by omega) hn) ?_;show Sum.elim _ _ (acX (U7 s none l))=_;unfold acX;by_cases h:U7 s none l=0
 .rw[if_pos h,h];rfl
 .rw[if_neg h];rfl
def VW (x y:List UInt8):Prop:=(Go.Op.bytesLess y x||(y==x))=false
theorem awc (x y:UInt8)(a b:List UInt8):Go.Op.bytesLess (x::a) (y::b)=(decide (x<y)||(x==y&& Go.Op.bytesLess a b)):=rfl
theorem awd {x y:UInt8}{a b:List UInt8}:VW (x::a) (y::b)↔x.toNat<y.toNat\/(x=y/\VW a b):=by
 unfold VW;rw[awc];have h1:(y<x)↔y.toNat<x.toNat:=UInt8.lt_iff_toNat_lt;have h2:(x=y)↔x.toNat=y.toNat:=⟨fun h=>h▸rfl,UInt8.toNat.inj⟩;have h3:(y=x)↔y.toNat=x.toNat:=⟨fun h=>h▸rfl,UInt8.toNat.inj⟩;have h4:((y::b)==(x::a))=((y==x)&& (b==a)):=rfl;rw[h4];by_cases e:y=x
 .subst e;simp
 .have e':¬y.toNat=x.toNat:=fun h=>e (h3.2 h);have e2:¬x=y:=fun h=>e h.symm;rw[show (y==x)=false by simpa using e];simp only[Bool.false_and,Bool.or_false,e2,false_and,or_false];rw[decide_eq_false_iff_not,h1];omega
theorem awe {y:List UInt8}:VW [] y↔y≠[]:=by
 cases y with
 |nil=>exact⟨fun h=>(by cases h),fun h=>absurd rfl h⟩
 |cons c y=>exact⟨fun _ h=>(by cases h),fun _=>rfl⟩
theorem aoX {x:List UInt8}:¬VW x []:=by
 cases x with
 |nil=>intro h;cases h|cons c x=>intro h;cases h
theorem akR:∀{x y z:List UInt8},VW x y->VW y z->VW x z
 |x,[],z,h,_=>absurd h aoX|_,_::_,[],_,h=>absurd h aoX| [],y::ys,z::zs,_,_=>awe.2 (by simp)|x::xs,y::ys,z::zs,h1,h2=>by
  rw[awd] at*;rcases h1 with h1| ⟨rfl,h1⟩
  .rcases h2 with h2| ⟨rfl,h2⟩
   .exact .inl (by omega)
   .exact .inl h1
  .rcases h2 with h2| ⟨rfl,h2⟩
   .exact .inl h2
   .exact .inr ⟨rfl,akR h1 h2⟩
theorem afV {x y:List UInt8}(h:VW x y):x≠y:=by rintro rfl;unfold VW at h;simp at h
def Asc:List UInt8->List Def->Prop
 |_,[]=>True|x,d::ds=>VW x d.Name/\Asc d.Name ds
theorem Asc.weak:∀{ds:List Def}{x y:List UInt8},VW x y->Asc y ds->Asc x ds
 | [],_,_,_,_=>trivial|d::ds,x,y,h,h2=>⟨akR h h2.1,h2.2⟩
theorem Asc.filter {p:Def->Bool}:∀{ds:List Def}{x:List UInt8},Asc x ds->Asc x (ds.filter p)
 | [],_,_=>trivial|d::ds,x,h=>by
  rw[List.filter_cons];cases p d with
  |true=>exact⟨h.1,h.2.filter⟩|false=>exact(h.2.filter).weak h.1
theorem Asc.all:∀{ds:List Def}{x:List UInt8},Asc x ds->∀d∈ds,VW x d.Name
 |e::ds,x,h,d,hd=>by
  rcases PG.1 hd with rfl|hd2
  .exact h.1
  .exact akR h.1 (h.2.all d hd2)
theorem Asc.uniq:∀{ds:List Def}{x:List UInt8},Asc x ds->∀d∈ds,∀e∈ds,d.Name=e.Name->d=e
 |f::ds,x,h,d,hd,e,he,hn=>by
  rcases PG.1 hd with h1|h1
  .rcases PG.1 he with h2|h2
   .exact h1.trans h2.symm
   .exact absurd (h1▸hn) (afV (h.2.all e h2))
  .rcases PG.1 he with h2|h2
   .exact absurd (h2▸hn.symm) (afV (h.2.all d h1))
   .exact h.2.uniq d h1 e h2 hn
theorem ChD.asc {n:Nat}:∀{ds:List Def}{x:List UInt8},ChD n x ds->Asc x ds
 | [],_,_=>trivial|d::ds,x,h=>⟨h.1.1,h.2.asc⟩
theorem aoY {s:Rk}:∀{l:List Attr}{o:Option (List UInt8)},U7 s o l=0->∀a∈l,∃d∈s.Defs,d.Name=a.Name/\OkA d a
 |b::l,o,h,a,ha=>by
  unfold U7 at h;cases hf:s.Defs.find? (fun d=>d.Name==b.Name) with
  |none=>rw[hf] at h;cases h|some d=>
   rw[hf] at h;dsimp only at h;have hd:=List.mem_of_find?_eq_some hf;have hn:d.Name=b.Name:=by simpa using List.find?_some hf
   cases hu:acW o b.Name with
   |true=>rw[hu] at h;cases h|false=>
    rw[hu,cond_false] at h;by_cases hv:WY d b=0
    .rw[if_pos hv] at h;rcases PG.1 ha with e|ha2
     .rw[e];exact⟨d,hd,hn,val_ok hv hn.symm⟩
     .exact aoY h a ha2
    .rw[if_neg hv] at h;exact absurd h hv
def Cho (L:List Pred):List Def->List (Option Attr)->Prop
 | [],[]=>True|d::ds,o::os=>o∈Vh d L/\Cho L ds os|_,_=>False
theorem aoZ {L:List Pred}:∀{ds:List Def}{os:List (Option Attr)},Cho L ds os->Pick ((ds.map fun d=>Vh d L).map (List.map Uj)) (os.map Uj)
 | [],[],_=>trivial| [],_::_,h=>h.elim|_::_,[],h=>h.elim|d::ds,o::os,h=>⟨Qo.2 ⟨o,h.1,rfl⟩,aoZ h.2⟩
theorem ao0 {L:List Pred}:∀{ds:List Def}{xs:List Q6},Pick ((ds.map fun d=>Vh d L).map (List.map Uj)) xs->∃os,Cho L ds os/\xs=os.map Uj
 | [],[],_=>⟨[],trivial,rfl⟩| [],_::_,h=>h.elim|_::_,[],h=>h.elim|d::ds,x::xs,h=>by obtain⟨o,h1,h2⟩:=Qo.1 h.1;obtain⟨os,h3,h4⟩:=ao0 h.2;exact⟨o::os,⟨h1,h3⟩,by rw[PO,h2,h4]⟩
theorem afW:∀os:List (Option Attr),(os.map Uj).flatMap UR=os.filterMap id
 | []=>rfl|none::os=>by rw[PO,P6,afW os];rfl|some a::os=>by rw[PO,P6,afW os];rfl
theorem akS {L:List Pred}:∀{ds:List Def}{os:List (Option Attr)}{x:List UInt8},Asc x ds->(∀d∈ds,d.Lo<=d.Hi)->Cho L ds os->∀a∈os.filterMap id,VW x a.Name
 | [],[],_,_,_,_,a,ha=>by cases ha| [],_::_,_,_,_,h,_,_=>h.elim|_::_,[],_,_,_,h,_,_=>h.elim|d::ds,none::os,x,hA,hle,h,a,ha=>by exact akS (hA.2.weak hA.1) (fun e he=>hle e (PK _ he)) h.2 a ha
 |d::ds,some b::os,x,hA,hle,h,a,ha=>by
  have ha:a∈b::os.filterMap id:=ha;have hb:=(afU (hle d (PI ..)) h.1 b rfl).1;rcases PG.1 ha with e|ha2
  .rw[e,hb];exact hA.1
  .exact akS (hA.2.weak hA.1) (fun e he=>hle e (PK _ he)) h.2 a ha2
theorem awf {l:List Attr}{x:List UInt8}(h:∀a∈l,a.Name≠x):TW l x=none:=by unfold TW;exact List.find?_eq_none.2 fun a ha=>by simpa using h a ha
theorem awg {l:List Attr}{b:Attr}{x:List UInt8}(h:b.Name≠x):TW (b::l) x=TW l x:=by unfold TW;rw[List.find?_cons,show (b.Name==x)=false by simpa using h]
theorem awh {l:List Attr}{b:Attr}{x:List UInt8}(h:b.Name=x):TW (b::l) x=some b:=by unfold TW;rw[List.find?_cons,show (b.Name==x)=true by simpa using h]
def Rep (L:List Pred)(l:List Attr):List Def->List (Option Attr)->Prop
 | [],[]=>True|d::ds,o::os=>(∀q∈L,q.Name=d.Name->WX q (TW l d.Name)=WX q o)/\Rep L l ds os|_,_=>False
theorem ao1 {L:List Pred}{l:List Attr}:∀ds:List Def,(∀d∈ds,d.Kind=1\/d.Kind=2)->(∀d∈ds,∀a,TW l d.Name=some a->OkA d a)->∃os,Cho L ds os/\Rep L l ds os
 | [],_,_=>⟨[],trivial,trivial⟩|d::ds,h1,h2=>by obtain⟨o,g1,g2⟩:=av6 (l:=L) (h1 d (PI ..)) (o:=TW l d.Name) (h2 d (PI ..));obtain⟨os,g3,g4⟩:=ao1 ds (fun e he=>h1 e (PK _ he)) (fun e he=>h2 e (PK _ he));exact⟨o::os,⟨g1,g3⟩,⟨g2,g4⟩⟩
theorem ao2 {L:List Pred}{l:List Attr}:∀{ds:List Def}{os:List (Option Attr)}{x:List UInt8},Asc x ds->(∀d∈ds,d.Lo<=d.Hi)->Cho L ds os->Rep L l ds os->∀d∈ds,∀q∈L,q.Name=d.Name->WX q (TW l d.Name)=WX q (TW (os.filterMap id) d.Name)
 | [],[],_,_,_,_,_,d,hd,_,_,_=>by cases hd| [],_::_,_,_,_,h,_,_,_,_,_,_=>h.elim|_::_,[],_,_,_,h,_,_,_,_,_,_=>h.elim|e::ds,o::os,x,hA,hle,hc,hr,d,hd,q,hq,hn=>by
  have hle2:∀f∈ds,f.Lo<=f.Hi:=fun f hf=>hle f (PK _ hf);rcases PG.1 hd with h1|h1
  .subst h1;have key:TW ((o::os).filterMap id) d.Name=o:=by
    cases o with
    |none=>exact awf fun a ha=>(afV (akS hA.2 hle2 hc.2 a ha)).symm
    |some b=>exact awh (afU (hle d (PI ..)) hc.1 b rfl).1
   rw[key];exact hr.1 q hq hn
  .have key:TW ((o::os).filterMap id) d.Name=TW (os.filterMap id) d.Name:=by
    cases o with
    |none=>rfl|some b=>exact awg (by rw[(afU (hle e (PI ..)) hc.1 b rfl).1];exact afV (hA.2.all d h1))
   rw[key];exact ao2 hA.2 hle2 hc.2 hr.2 d h1 q hq hn
theorem akU {s:Rk}{L:List Pred}(hs:Asc [] s.Defs):∀{ds:List Def}{os:List (Option Attr)}{x:List UInt8}{o:Option (List UInt8)},Asc x ds->(∀d∈ds,d.Lo<=d.Hi)->(∀d∈ds,d∈s.Defs)->(∀y,o=some y->∀z,VW x z->VW y z)->Cho L ds os->U7 s o (os.filterMap id)=0
 | [],[],_,_,_,_,_,_,_=>rfl| [],_::_,_,_,_,_,_,_,h=>h.elim|_::_,[],_,_,_,_,_,_,h=>h.elim|d::ds,none::os,x,o,hA,hle,hm,ho,h=>by show U7 s o (os.filterMap id)=0;exact akU hs (hA.2.weak hA.1) (fun e he=>hle e (PK _ he)) (fun e he=>hm e (PK _ he)) ho h.2
 |d::ds,some b::os,x,o,hA,hle,hm,ho,h=>by
  show U7 s o (b::os.filterMap id)=0;have hok:=afU (hle d (PI ..)) h.1 b rfl;have hmd:=hm d (PI ..);have hf:s.Defs.find? (fun e=>e.Name==b.Name)=some d:=by
   cases hf:s.Defs.find? (fun e=>e.Name==b.Name) with
   |none=>exact absurd (List.find?_eq_none.1 hf d hmd) (by rw[hok.1];simp)|some e=>have he:=List.mem_of_find?_eq_some hf;have hn:e.Name=b.Name:=(by simpa using List.find?_some hf);rw[hs.uniq e he d hmd (hn.trans hok.1)]
  have hu:acW o b.Name=false:=by
   unfold acW;cases o with
   |none=>rfl|some y=>rw[hok.1];exact ho y rfl d.Name hA.1
  unfold U7;rw[hf];dsimp only;rw[hu,cond_false,if_pos (av8 hok)];refine akU hs (x:=d.Name) hA.2 (fun e he=>hle e (PK _ he)) (fun e he=>hm e (PK _ he)) (fun y hy z hz=>?_) h.2;cases hy;rw[hok.1];exact hz
theorem Ym.asc {n:Nat}{s:Rk}(h:Ym n s):Asc [] s.Defs:=h.chain.asc
theorem ao3 {s:Rk}:∀{l:List Pred},(abd s l).getD 0=0->(∀x∈l,abb s x≠some 0)->∀x∈l,abb s x=none
 |y::l,h,hz,x,hx=>by
  rw[abd] at h;cases hc:abb s y with
  |some e=>rw[hc] at h;have h:e=0:=h;subst h;exact absurd hc (hz y (PI ..))|none=>
   rw[hc] at h;rcases PG.1 hx with e|h2
   .rw[e];exact hc
   .exact ao3 h (fun z hz2=>hz z (PK _ hz2)) x h2
theorem awi {s:Rk}{x:Pred}:abb s x≠some 0:=by
 unfold abb;split
 .intro h;cases h
 .split
  .intro h;cases h
  .split
   .intro h;cases h
   .split
    .intro h;cases h
    .split
     .intro h;cases h
     .intro h;cases h
theorem awj {s:Rk}{p:Pred}(h:aaC s p=0):∀q∈pre p,5<=q.Op->∃d∈s.Defs,d.Name=q.Name:=by
 have hsz:=aoK h;unfold aaC at h;split at h
 .cases h
 .rw[Qu (by rw[Wz];omega)] at h;intro q hq h5;have hc:=ao3 h (fun x _=>awi) q hq;unfold abb at hc;split at hc
  .cases hc
  .split at hc
   .cases hc
   .rw[if_neg (by omega)] at hc;split at hc
    .cases hc
    .rename_i d hf;exact⟨d,List.mem_of_find?_eq_some hf,by simpa using List.find?_some hf⟩
def acY (s:Rk)(l:List Pred):List Def:=s.Defs.filter fun d=>l.any (VU d.Name)
theorem awk {n:Nat}{s:Rk}{p:Pred}{l:List Attr}(hS:Ym n s)(hn:800<n)(hc:aaC s p=0)(hf:U7 s none l=0):∃k,k<Rv ((Um s (pre p)).map (List.map Uj))/\SY (R4 k (Rv ((Um s (pre p)).map (List.map Uj))) ((Um s (pre p)).map (List.map Uj))) p=SY l p:=by
 have hdd:=fun d hd=>hS.defs hn (d:=d) hd;have hA:=hS.asc;have hsub:∀d∈acY s (pre p),d∈s.Defs:=fun d hd=>(QO.1 hd).1;have hle:∀d∈acY s (pre p),d.Lo<=d.Hi:=fun d hd=>(hdd d (hsub d hd)).le;obtain⟨os,h1,h2⟩:=ao1 (L:=pre p) (l:=l) (acY s (pre p)) (fun d hd=>(hdd d (hsub d hd)).kind) (fun d hd a ha=>by
  have ham:a∈l:=List.mem_of_find?_eq_some ha;have han:a.Name=d.Name:=by simpa using List.find?_some ha
  obtain⟨e,he,hen,hok⟩:=aoY hf a ham;rw[hA.uniq d (hsub d hd) e he (han.symm.trans hen.symm)];exact hok)
 obtain⟨k,hk,e⟩:=aoN _ _ (aoZ h1) (akO s (pre p));refine⟨k,hk,?_⟩;have e2:R4 k (Rv ((Um s (pre p)).map (List.map Uj))) ((Um s (pre p)).map (List.map Uj))=os.filterMap id:=by rw[<-afW];exact e
 rw[e2];refine(aoP p fun q hq h5=>?_).symm;obtain⟨d,hd,hdn⟩:=awj hc q hq h5;have hdm:d∈acY s (pre p):=by refine QO.2 ⟨hd,List.any_eq_true.2 ⟨q,hq,?_⟩⟩;unfold VU;rw[decide_eq_true h5,cond_true,hdn];simp
 have:=ao2 (hA.filter (p:=fun d=>(pre p).any (VU d.Name))) hle h1 h2 d hdm q hq hdn.symm;rw[hdn] at this;exact this
theorem awn {n:Nat}{s:Rk}{p:Pred}(hS:Ym n s)(hn:800<n){k:Nat}(hk:k<Rv ((Um s (pre p)).map (List.map Uj))):U7 s none (R4 k (Rv ((Um s (pre p)).map (List.map Uj))) ((Um s (pre p)).map (List.map Uj)))=0:=by have hdd:=fun d hd=>hS.defs hn (d:=d) hd;have hA:=hS.asc;have hsub:∀d∈acY s (pre p),d∈s.Defs:=fun d hd=>(QO.1 hd).1;obtain⟨xs,h1,h2⟩:=aoO _ k (akO s (pre p)) hk;obtain⟨os,h3,h4⟩:=ao0 (ds:=acY s (pre p)) h1;rw[h2,h4,afW];exact akU hA (hA.filter (p:=fun d=>(pre p).any (VU d.Name))) (fun d hd=>(hdd d (hsub d hd)).le) hsub (fun y h=>by cases h) h3
theorem awo {n:Nat}{s:Rk}{p:Pred}(hS:Ym n s)(hd:s.Defs.length<n)(hn:6000<n)(hp:RP p<n)(hp2:RP p<2^62):∃(L:List Attr) (b:Bool) (e:Int),Xh n (s,p)=some (L,(b,e))/\L.length<=16/\(e≠0->L=[]/\b=false)/\ (e=0->b=true->L=[]/\∀l,U7 s none l=0->SY l p=false)/\(e=0->b=false->SY L p=true/\U7 s none L=0):=by
 have hf:=hS.few;have hC:Zs n (s,p)=some (aaC s p):=avE (n:=n) (s:=s) (p:=p) hp2 hd (by omega);rw[aut];simp only[Pred.TG];by_cases he:aaC s p=0
 .have hsz:=aoK he;have hch:=he;rw[he] at hC;have hdd:=fun d hd=>hS.defs (by omega) (d:=d) hd;have hT:=avU (n:=n) (by omega) (p:=p) hdd (by omega) hf;have hlen:((Um s (pre p)).map (List.map Uj)).length<=16:=by rw[PY];exact PD (aoH ..) hf
  have hpos:=akO s (pre p);have hrow:∀c∈(Um s (pre p)).map (List.map Uj),c.length<2^30:=fun c hc=>by obtain⟨c',hc',rfl⟩:=Qo.1 hc;rw[PY];exact aoI hdd (by rw[Wz];omega) hc'
  have hcnt:=amy (n:=n) (t:=(Um s (pre p)).map (List.map Uj)) (by omega) (by omega) hrow;have hcs:=aoJ ((Um s (pre p)).map (List.map Uj)) 1 hpos (by omega) (by omega);have hrep:=fun l hl=>awk (p:=p) (l:=l) hS (by omega) hch hl;have hfit:=fun k hk=>awn (p:=p) (k:=k) hS (by omega) hk;generalize (Um s (pre p)).map (List.map Uj)=t at hT hlen hpos hrow hcnt hcs hrep hfit;by_cases hbig:VP 1 (t.map List.length)>4096
  .refine⟨[],false,2,bs hC ?_,Qn _,fun _=>⟨rfl,rfl⟩,fun h=>absurd h (by decide),fun h=>absurd h (by decide)⟩;show (bif false then _ else _)=_;rw[cond_false];refine bs hT (bs hcnt ?_);rw[decide_eq_true hbig];rfl
  .have hprod:Rv t<=4096:=by have:=hcs (by show VP 1 (t.map List.length)<=4096;omega);omega
   have hO:abD t p=some (VK (fun l=>SY l p) t):=by unfold abD;rw[if_pos ⟨by omega,hpos,hprod,hp2⟩]
   have hL:=av3 (fun l=>SY l p) t;refine⟨(VK (fun l=>SY l p) t).1,(VK (fun l=>SY l p) t).2,0,bs hC ?_,by omega,fun h=>absurd rfl h,fun _=>?_,fun _=>?_⟩
   .show (bif false then _ else _)=_;rw[cond_false];refine bs hT (bs hcnt ?_);rw[decide_eq_false hbig,cond_false];exact bs ((atj n (t,p)).trans hO) rfl
   .unfold VK;cases hfi:(List.range (Rv t)).find? (fun k=>SY (R4 k (Rv t) t) p) with
    |some k=>intro h;cases h|none=>intro _;refine⟨rfl,fun l hl=>?_⟩;obtain⟨k,hk,e⟩:=hrep l hl;have:=List.find?_eq_none.1 hfi k (List.mem_range.2 hk);rw[<-e];simpa using this
   .unfold VK;cases hfi:(List.range (Rv t)).find? (fun k=>SY (R4 k (Rv t) t) p) with
    |some k=>intro _;have h1:=List.find?_some hfi;have h1:SY (R4 k (Rv t) t) p=true:=h1;exact⟨h1,hfit k (List.mem_range.1 (List.mem_of_find?_eq_some hfi))⟩|none=>intro h;cases h
 .have e0:(aaC s p !=(0:Int))=true:=by simpa using he
  refine⟨[],false,aaC s p,bs hC ?_,Qn _,fun _=>⟨rfl,rfl⟩,fun h=>absurd h he,fun h=>absurd h he⟩;rw[e0];rfl
theorem awp {n:Nat}{s:Rk}{a b:Pred}(hs:aaA s n)(hx:RP a+RP b+2<n)(hx2:RP a+RP b+2<2^62)(hn:6000<n):∃o,Xq n (s,(a,b))=some o/\(o=true->Ym n s):=by
 obtain⟨b1,h1⟩:=avM hs (by omega);obtain⟨b2,h2⟩:=an5 (n:=n) (p:=a) (k:=100) (by omega) (by omega);obtain⟨b3,h3⟩:=an5 (n:=n) (p:=b) (k:=100) (by omega) (by omega);rw[atF];simp only[Pred.TG];cases hc:(bif bif !b1 then true else !b2 then true else !b3);case true=>exact⟨false,bs h1 (bs h2 (bs h3 (by rw[hc];rfl))),fun h=>by cases h⟩
 case false=>
  cases b1<;>cases b2<;>cases b3<;>try cases hc
  have hS:=avR hs.2.1 h1;have s2:=aoL (by omega) (by omega) h2;have s3:=aoL (by omega) (by omega) h3;have hC:=av1 (n:=n) (by omega) (p:=⟨2,[],0,0,[],[a,b]⟩) hS (by simp only[RP,WM];omega);generalize VP 1 ((Um s (pre ⟨2,[],0,0,[],[a,b]⟩)).map List.length)=cv at hC;refine⟨(bif decide (cv<=(600:Int)) then true else decide (cv> (4096:Int))),bs h1 (bs h2 (bs h3 ?_)),fun _=>hS⟩;show (bif false then _ else _)=_;rw[cond_false];refine bs (atz n a b) ?_;simp only[Pred.TG];exact bs hC rfl
theorem awq {n:Nat}{s:Rk}{p:Pred}{l:List Attr}(hs:aaA s n)(hx:6*(RP p+RP p+2)<n)(hx2:RP p+RP p+2<2^62)(hl:l.length<n)(hl2:l.length<2^62)(hn:6000<n):Xi n (s,(p,l))=some true:=by
 have aeo:Xb n ()=some true:=asl n ();rw[auu];simp only[Pred.TG];obtain⟨o,ho,hb⟩:=awp (a:=p) (b:=p) hs (by omega) hx2 hn;refine bs ho ?_;cases o with
 |false=>refine bs (show Uh (!(!false)) (Zy n (s,l)) (0:Int)=some (0:Int) from rfl) ?_;exact bs aeo rfl|true=>
  have hS:=hb rfl;refine bs (show Uh (!(!true)) (Zy n (s,l)) (0:Int)=some (U7 s none l) from aoW hs hl2 hl) ?_;by_cases hf:U7 s none l=0
  .rw[hf];show (bif false then _ else _)=_;rw[cond_false];obtain⟨L,b,e,k1,k2,k3,k4,k5⟩:=awo (n:=n) (s:=s) (p:=p) hS hs.1 hn (by omega) (by omega);refine bs k1 ?_;by_cases he:e=0
   .rw[show (e !=(0:Int))=false by simpa using he,cond_false];cases b with
    |true=>obtain⟨hL,hall⟩:=k4 he rfl;subst hL;rw[cond_true];refine bs aeo ?_;refine bs (show Uh (bif true then ((([]:List Attr).length:Nat):Int)==(0:Int) else false) (ZR n (p,l)) false=some (SY l p) from ahw hl hl2 (by omega) (by omega)) ?_;rw[hall l hf];rfl
    |false=>obtain⟨h1,h2⟩:=k5 he rfl;rw[cond_false];refine bs aeo ?_;refine bs (show Uh true (ZR n (p,L)) false=some true by show ZR n (p,L)=_;rw[<-h1];exact ahw (by omega) (by omega) (by omega) (by omega)) ?_;refine bs (show Uh (bif true then true else false) (Zy n (s,L)) (0:Int)=some (0:Int) by show Zy n (s,L)=_;exact(aoW hs (by omega) (by omega)).trans (by rw[h2])) ?_;rfl
   .obtain⟨hL,hb2⟩:=k3 he;subst hL;subst hb2;rw[show (e !=(0:Int))=true by simpa using he,cond_true];exact bs aeo rfl
  .have e0:(U7 s none l !=(0:Int))=true:=by simpa using hf
   rw[e0];exact bs aeo rfl
end Sh
end
