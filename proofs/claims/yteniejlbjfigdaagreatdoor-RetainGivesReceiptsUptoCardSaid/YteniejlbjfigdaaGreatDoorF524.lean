import Derived.Test.YteniejlbjfigdaaGreatDoorF516
import Derived.Test.YteniejlbjfigdaaGreatDoorF521
import Derived.Test.YteniejlbjfigdaaGreatDoorF523
set_option linter.all false
section
open Go Go.Proofs aR
namespace Sh
set_option maxRecDepth 100000
def xq (root:List aC->Option aC)(split:Int->Option Int):Nat->List aC->Int->Option (List aC)
 |0,_,_=>none|g+1,l,i=>bif Nat.beq l.length 1 then some [] else (split (l.length:Int)).bind fun k=>bif decide (0<=k/\k<=(l.length:Int)) then (bif decide (i<k) then (xq root split g (l.take k.toNat) i).bind fun p=>(root (l.drop k.toNat)).map fun d=>p++[d]else (xq root split g (l.drop k.toNat) (IntKind.wrap .i64 (i-k))).bind fun p=>(root (l.take k.toNat)).map fun d=>p++[d]) else none
structure rO (Z:ah)(s6 s7:Nat)(acc:List aC):Prop where
 c6:∃c,Z.dK (1,6) s6=some [.ak c (acc.map aC.v)]/\Q0 16 Z c acc.length
 c7:Z.dK (1,7) s7=some [.fn (.func 109) [] [.ref (1,7) s7 0,.ref (1,6) s6 0]]
section
variable {E:Env}{S:iN}{fr:Fr}{Z:ah}{st ty:Nat}{pos:String}{bV:Array Edge}{gd:Option (Nat×Bool)}
def FK (c:Cap)(k:Int):Cap:=if k.toNat=0 then c else match c with
 |.full=>.full|_=>.sh
theorem ajT {d:Option Nat}{x h:Operand}{t e:TypeId}{sz:Nat}{c:Cap}{l:List V}{k:Int}(hx:fr.ev E x= .ak c l)(hh:fr.ev E h= .int .i64 k)(hu:E.P.underlying t=some (.slice e))(hs:dF E.P e=some sz)(hz:og sz l=true)(h0:0<=k)(h1:k<=(l.length:Nat)):
 opC E S fr Z st ⟨d,.slice t x (some h) none none,ty,pos,bV,gd⟩=some (.ak (FK c k) (l.drop k.toNat),fr,Z):=by
 have:jq l.length l.length (some (.int .i64 k)) none none=some (k.toNat,l.length,l.length):=by unfold jq bnd pG;simp only[Option.bind_some];rw[if_pos ⟨h0,h1⟩,Option.bind_some]
 show Option.map _ ((kQ E.P Z t (fr.ev E x) (some (fr.ev E h)) none none).map fun v=>(v,Z))=_;rw[hx,hh];unfold kQ FK;rw[hu];dsimp only;rw[hs,Option.bind_some,this,Option.bind_some,if_pos hz];by_cases hk:k.toNat=0
 .rw[if_pos ⟨hk,rfl,rfl⟩,if_pos hk,hk];rfl
 .rw[if_neg (fun e=>hk e.1),if_neg hk,List.take_length];cases c<;>simp
end
theorem ajU {Z:ah}{c:Cap}{n:Nat}(h:Q0 16 Z c n)(k:Nat):Q0 16 (Z.bump k) c n:=by
 rcases h with rfl| ⟨s,rfl,h4,h5⟩
 .exact .inl rfl
 .exact .inr ⟨s,rfl,h4,lW h5 (lD _ _)⟩
theorem rO.bump {Z:ah}{s6 s7 k:Nat}{acc:List aC}(h:rO Z s6 s7 acc):rO (Z.bump k) s6 s7 acc:=by
 obtain⟨⟨c,h1,h2⟩,h3⟩:=h;refine⟨⟨c,h1,?_⟩,h3⟩;rcases h2 with rfl| ⟨s,rfl,h4,h5⟩
 .exact .inl rfl
 .exact .inr ⟨s,rfl,h4,lW h5 (lD _ _)⟩
theorem ajV (l:List aC):bQ (l.map aC.v)=true:=by
 induction l with
 |nil=>rfl|cons a l ih=>simp only[iA,bQ,aC.pc,ih,Bool.and_self]
theorem ajW (Z:ah)(c:Cap)(l:List aC):Is (([]++[V.ak c (l.map aC.v)]++[]).mapM (bg 20 Z)) (some [lv aC.v l]):=by show List.mapM (bg 20 Z) [V.ak c (l.map aC.v)]=_;rw[iG,x9 (n:=18) c l aC.pc];rfl
theorem ajX (c:Cap)(l:List aC)(d:aC):Is ((([]++[V.ak c (l.map aC.v)]++[]).all fun x=>aQ (er x))||flat d.v) true:=by show ((aQ (.ak .sh (l.map aC.v))&& true)||flat d.v)=true;rw[show aQ (.ak .sh (l.map aC.v))=bQ (l.map aC.v) from tF,ajV];rfl
theorem avL (c:Cap)(l:List aC):aQ (er (V.ak c (l.map aC.v)))=true:=by show aQ (.ak .sh (l.map aC.v))=true;rw[show aQ (.ak .sh (l.map aC.v))=bQ (l.map aC.v) from tF,ajV]
theorem ajY (d:aC):BN E 70 1 [(0,d.v)]=some (.ak .full [d.v]):=ay
theorem ajZ {Z:ah}{c:Cap}{l:List aC}{d:aC}{c2:Cap}(hc:Q0 16 Z c l.length)(hl:l.length<2^30)(st:Nat):∃s',Ci Tryz.prog Z st 70 70 (.ak c (l.map aC.v)) (.ak c2 [d.v])=some (.ak (.own 16 s') ((l++[d]).map aC.v),Z.dY s' (l.length+1))/\(s'<Z.next\/s'=st):=by
 have ha:ED Tryz.prog 70 70 16 16 (.agg (List.replicate 16 (.int .u8 0))):=by refine ED.mk 44 true ?_ ?_ ?_ ?_ ?_ rfl aL rfl ?_<;>kernel_rfl
 have hr:cK ((l.map aC.v).length+[d.v].length) 16=true:=by unfold cK;simp only[eU,List.length_cons,List.length_nil,aZ,decide_eq_true_eq];omega
 rcases hc with rfl| ⟨s,rfl,h4,h5⟩
 .refine⟨st,?_,.inr rfl⟩;have h:=ap9 (Z:=Z) (st:=st) (c2:=c2) ha (Bd [d]) (Bd l) hr;exact h.trans aB
 .refine⟨s,?_,.inl h5⟩;have h:=ap8 (Z:=Z) (st:=st) (c2:=c2) ha (Bd [d]) (Bd l) hr (by rw[eU];exact h4);exact h.trans aB
theorem aj0 {root:List aC->Option aC}{split:Int->Option Int}:∀(g:Nat)(l:List aC)(i:Int)(p:List aC),xq root split g l i=some p->p.length<g:=by
 intro g;induction g with
 |zero=>intro l i p h;cases h|succ g ih=>
  intro l i p h;unfold xq at h;cases hb:Nat.beq l.length 1 with
  |true=>rw[hb,cond_true] at h;cases h;simp|false=>
   rw[hb,cond_false,iR] at h;obtain⟨k,_,h⟩:=h;cases hk:decide (0<=k/\k<=(l.length:Int)) with
   |false=>rw[hk] at h;cases h|true=>
    rw[hk,cond_true] at h;cases hi:decide (i<k) with
    |true=>rw[hi,cond_true,iR] at h;obtain⟨q,hq,h⟩:=h;rw[aW] at h;obtain⟨d,_,rfl⟩:=h;have:=ih _ _ _ hq;simp;omega
    |false=>rw[hi,cond_false,iR] at h;obtain⟨q,hq,h⟩:=h;rw[aW] at h;obtain⟨d,_,rfl⟩:=h;have:=ih _ _ _ hq;simp;omega
theorem aj1 {all:List Oper}{fr:Fr}{d x ty:Nat}{pos:String}{bV:Array Edge}{c:Cap}{l:List aC}(hx:fr.tm x= .ak c (l.map aC.v)):
 Is (dW E all fr ⟨some d,.call ⟨.value (.func 67), #[.tmp x], #[70]⟩,ty,pos,bV,none⟩ true) ⟨false,false,[.slot x],[.slot d]⟩:=by
 have hf:fT E fr ⟨some d,.call ⟨.value (.func 67), #[.tmp x], #[70]⟩,ty,pos,bV,none⟩=mE []:=by
  unfold fT;have h1:kX E fr ⟨some d,.call ⟨.value (.func 67), #[.tmp x], #[70]⟩,ty,pos,bV,none⟩ (.func 67)=false:=zh (g:=67) (a:=[]) (b:=[]) rfl (fun _ _=>rfl);have h2:fr.ev E (.func 67)= .fn (.func 67) [] []:=rfl;have h3:E.imp 67=false:=rfl;have h4:(([]++(#[Operand.tmp x].toList.map (fr.ev E))++[]).all fun v=>aQ (er v))=true:=by show (aQ (er (fr.tm x))&& true)=true;rw[hx,avL];rfl
  simp only[h1,h2,h3,h4,if_true,if_false,bZ]
 show (⟨(fT E fr _).qb,(fT E fr _).lH,_++(fT E fr _).t,_++(fT E fr _).w⟩:dJ)=_;rw[hf];rfl
theorem avM {root:List aC->Option aC}{split:Int->Option Int}(hroot:∀p x,root p=some x->Pure E 67 [lv aC.v p] x.v)(hsplit:∀p x,split p=some x->Pure E 110 [.int .i64 p] (.int .i64 x)):
 ∀(g:Nat)(l:List aC)(i:Int)(p:List aC),xq root split g l i=some p->∀(dd:Nat)(Z:ah)(acc:List aC)(s6 s7:Nat)(c0:Cap),1<dd->acc.length+g<2^30->rO Z s6 s7 acc->
  jd E 109 [.ak c0 (l.map aC.v),.int .i64 i,.ref (1,7) s7 0,.ref (1,6) s6 0] dd Z (fun v Z'=>rO Z' s6 s7 (acc++p)/\Z.next<=Z'.next):=by
 intro g;induction g with
 |zero=>intro l i p h;cases h|succ g ih=>
  intro l i p h dd Z acc s6 s7 c0 aBw hlen hps;have hP:E.P=Tryz.prog:=rfl;have e1:gV Tryz.prog 172 [.fn (.func 109) [] [.ref (1,7) s7 0,.ref (1,6) s6 0]] 0=some (.fn (.func 109) [] [.ref (1,7) s7 0,.ref (1,6) s6 0]):=rfl;have e2:dF E.P 44=some 16:=ay
  have e6:E.P.underlying 70=some (.slice 44):=ay
  have avN:=hps;obtain⟨⟨cp,hc6,hcp⟩,aBx⟩:=avN;have hres:Tryz.f109.results.toList=[]:=rfl;refine jd.of (fn:=Tryz.f109) (c:=Tryz.f109.body.getD .skip) Tryz.func109 rfl ay ?_;generalize hfr:({d:=dd,aj:=E.aj 109,tm:=fun j=>([.ak c0 (l.map aC.v),.int .i64 i,.ref (1,7) s7 0,.ref (1,6) s6 0]:List V).getD j aJ}:Fr)=fr;have a0:fr.tm 0= .ak c0 (l.map aC.v):=iU
  have a1:fr.tm 1= .int .i64 i:=iU
  have a2:fr.tm 2= .ref (1,7) s7 0:=iU
  have a3:fr.tm 3= .ref (1,6) s6 0:=iU
  have hd:fr.d=dd:=BD
  have bO:fr.aj=false:=iU
  clear hfr;have hmap:(l.map aC.v).length=l.length:=eU ..;refine aD.seq (aD.seq (aD.region ?_));refine av.a1 ?_;refine av.a1 ?_;refine av.a1 ?_;refine av.nil (dG.n ?_);unfold xq at h;cases hb:Nat.beq l.length 1 with
  |true=>rw[hb,cond_true] at h;cases h;have hl:l.length=1:=yS hb;refine aD.vB jU (aD.ret ?_);rw[hres];exact⟨[],rfl,by rw[iV];exact rO.bump hps,lD _ _⟩|false=>
   have hl:l.length≠1:=fun e=>by rw[e] at hb;cases hb
   have hl':((l.length:Int)==1)=false:=dP
   rw[hb,cond_false,iR] at h;obtain⟨k,hk,h⟩:=h;cases hkk:decide (0<=k/\k<=(l.length:Int)) with
   |false=>rw[hkk] at h;cases h|true=>
   rw[hkk,cond_true] at h;obtain⟨k0,k1⟩:=of_decide_eq_true hkk;refine aD.xZ jU (aD.skip (dG.n ?_));refine aD.seq (aD.region ?_);refine av.a1 ?_;refine av.a1 ?_;refine av.QX (hsplit _ _ hk) bC (by simp only[go_sem,Nat.reduceBEq,Nat.reduceAdd,hmap, *];exact Is.rfl) jU bC ?_;refine av.a1 ?_;refine av.nil (dG.n ?_);refine aD.seq (aD.region ?_);refine av.a1 ?_;refine av.a1 ?_;refine av.a1 ?_;refine av.nil (dG.n ?_);cases hik:decide (i<k) with
   |true=>
    rw[hik,cond_true,iR] at h;obtain⟨q,hq,h⟩:=h;rw[aW] at h;obtain⟨dg,hdg,rfl⟩:=h;refine aD.vB jU ?_;refine aD.seq (aD.afn (fun _=>?_) ay);refine dn.o1 bC dS kN ?_;refine dn.o1 bC dS kN ?_;refine dn.o1 bC dS kN ?_;refine dn.o1 bC dS kN ?_;refine dn.o1 (v:=.ak .full ((l.take k.toNat).map aC.v)) bC (by intro S;rw[List.map_take];exact Z0 (c:=c0) jG jG jG e6 e2 (Cj (Bd l)) k0 P9) kN ?_;refine dn.o1 bC dS kN ?_;refine dn.Aq (g:=109) (a:=[]) (b:=[.ref (1,7) s7 0,.ref (1,6) s6 0]) bC rfl rfl xE rfl ?_;simp only[EB,Cg,hd];change jd E 109 [.ak .full ((l.take k.toNat).map aC.v),.int .i64 i,.ref (1,7) s7 0,.ref (1,6) s6 0] (dd+1) _ _;obtain⟨n,v,Z1,hn,NG,hnx⟩:=ih _ _ _ hq (dd+1) _ acc s6 s7 .full RS RS (rO.bump (rO.bump (rO.bump (rO.bump hps))));refine⟨n,v,Z1,hn,?_⟩;refine dn.nil ay (Ch.i (dG.n ?_));obtain⟨⟨cq,avO,hcq⟩,aad⟩:=NG;refine aD.afs (fun sU NH=>?_) ay;have hnk:7<sU:=(by rw[NH];decide);clear NH;refine dn.o1 bC dS kN ?_;refine dn.o1 bC dS kN ?_;refine dn.o1 bC dS kN ?_;refine dn.o1 (v:=.ak (FK c0 k) ((l.drop k.toNat).map aC.v)) bC (by intro S;rw[List.map_drop];exact ajT (c:=c0) jG jG e6 e2 (Cj (Bd l)) k0 P9) kN ?_;refine dn.QX (hroot _ _ hdg) bC (by simp only[go_sem,Nat.reduceBEq,Nat.reduceAdd, *];exact ajW _ _ _) (by simp only[go_sem,Nat.reduceBEq,Nat.reduceAdd, *];exact ajX _ _ _) bC (aj1 (c:=FK c0 k) (l:=l.drop k.toNat) jG) ?_;refine dn.o1 (v:=.ak .full [dg.v]) bC (by intro S;simp only[go_sem,Nat.reduceBEq,Nat.reduceAdd,ajY, *];with_reducible exact Is.rfl) kN ?_;obtain⟨s',hs',hs2⟩:=ajZ (Z:=Z1.bump sU) (c2:=.full) (d:=dg) (l:=acc++q) (ajU hcq sU) (by have:=aj0 _ _ _ _ hq;rw[iP];omega) (Z1.next+1+1+1+1+1+1);refine dn.o1 (v:=.ak (.own 16 s') ((acc++q++[dg]).map aC.v)) (Z1:=(Z1.bump sU).dY s' ((acc++q).length+1)) bC (fun S=>?_) kN ?_
    .rw[Wq (c:=cq) (l:=(acc++q).map aC.v) jG jG];simp only[go_sem,Nat.reduceBEq,Nat.reduceAdd, *];exact Is.rfl
    refine dn.o0 bC PD kN ?_;refine dn.nil ay (Ch.i ?_);rw[hres];refine⟨[],rfl,?_⟩;show rO _ _ _ (acc++(q++[dg]))/\_;rw[<-eZ];refine⟨⟨⟨_,su _ _ _ _,.inr ⟨s',rfl,?_,?_⟩⟩,?_⟩,?_⟩
    .show upd Z1.top s' _ s'=_;simp[upd];omega
    .show s'<Z1.next+sU;rcases hs2 with h2|h2
     .exact h2
     .omega
    .rw[EC _ _ _ _ aL];exact aad
    .show Z.next<=Z1.next+sU;have:Z.next<=Z1.next:=eO (eO (eO (eO (lD _ _) (lD _ _)) (lD _ _)) (lD _ _)) hnx;omega
   |false=>
    rw[hik,cond_false,iR] at h;obtain⟨q,hq,h⟩:=h;rw[aW] at h;obtain⟨dg,hdg,rfl⟩:=h;refine aD.xZ jU ?_;refine aD.seq (aD.afn (fun _=>?_) ay);refine dn.o1 bC dS kN ?_;refine dn.o1 bC dS kN ?_;refine dn.o1 bC dS kN ?_;refine dn.o1 (v:=.ak (FK c0 k) ((l.drop k.toNat).map aC.v)) bC (by intro S;rw[List.map_drop];exact ajT (c:=c0) jG jG e6 e2 (Cj (Bd l)) k0 P9) kN ?_;refine dn.o1 bC dS kN ?_;refine dn.o1 bC dS kN ?_;refine dn.o1 bC dS kN ?_;refine dn.Aq (g:=109) (a:=[]) (b:=[.ref (1,7) s7 0,.ref (1,6) s6 0]) bC rfl rfl xE rfl ?_;simp only[EB,Cg,hd];change jd E 109 [.ak (FK c0 k) ((l.drop k.toNat).map aC.v),.int .i64 (IntKind.wrap .i64 (i-k)),.ref (1,7) s7 0,.ref (1,6) s6 0] (dd+1) _ _;obtain⟨n,v,Z1,hn,NG,hnx⟩:=ih _ _ _ hq (dd+1) _ acc s6 s7 (FK c0 k) RS RS (rO.bump (rO.bump (rO.bump (rO.bump hps))));refine⟨n,v,Z1,hn,?_⟩;refine dn.nil ay (Ch.i (dG.n ?_));obtain⟨⟨cq,avO,hcq⟩,aad⟩:=NG;refine aD.afs (fun sU NH=>?_) ay;have hnk:7<sU:=(by rw[NH];decide);clear NH;refine dn.o1 bC dS kN ?_;refine dn.o1 bC dS kN ?_;refine dn.o1 bC dS kN ?_;refine dn.o1 bC dS kN ?_;refine dn.o1 (v:=.ak .full ((l.take k.toNat).map aC.v)) bC (by intro S;rw[List.map_take];exact Z0 (c:=c0) jG jG jG e6 e2 (Cj (Bd l)) k0 P9) kN ?_;refine dn.QX (hroot _ _ hdg) bC (by simp only[go_sem,Nat.reduceBEq,Nat.reduceAdd, *];exact ajW _ _ _) (by simp only[go_sem,Nat.reduceBEq,Nat.reduceAdd, *];exact ajX _ _ _) bC (aj1 (c:=.full) (l:=l.take k.toNat) jG) ?_;refine dn.o1 (v:=.ak .full [dg.v]) bC (by intro S;simp only[go_sem,Nat.reduceBEq,Nat.reduceAdd,ajY, *];with_reducible exact Is.rfl) kN ?_;obtain⟨s',hs',hs2⟩:=ajZ (Z:=Z1.bump sU) (c2:=.full) (d:=dg) (l:=acc++q) (ajU hcq sU) (by have:=aj0 _ _ _ _ hq;rw[iP];omega) (Z1.next+1+1+1+1+1+1+1);refine dn.o1 (v:=.ak (.own 16 s') ((acc++q++[dg]).map aC.v)) (Z1:=(Z1.bump sU).dY s' ((acc++q).length+1)) bC (fun S=>?_) kN ?_
    .rw[Wq (c:=cq) (l:=(acc++q).map aC.v) jG jG];simp only[go_sem,Nat.reduceBEq,Nat.reduceAdd, *];exact Is.rfl
    refine dn.o0 bC PD kN ?_;refine dn.nil ay (Ch.i ?_);rw[hres];refine⟨[],rfl,?_⟩;show rO _ _ _ (acc++(q++[dg]))/\_;rw[<-eZ];refine⟨⟨⟨_,su _ _ _ _,.inr ⟨s',rfl,?_,?_⟩⟩,?_⟩,?_⟩
    .show upd Z1.top s' _ s'=_;simp[upd];omega
    .show s'<Z1.next+sU;rcases hs2 with h2|h2
     .exact h2
     .omega
    .rw[EC _ _ _ _ aL];exact aad
    .show Z.next<=Z1.next+sU;have:Z.next<=Z1.next:=eO (eO (eO (eO (lD _ _) (lD _ _)) (lD _ _)) (lD _ _)) hnx;omega
def JL (root:List aC->Option aC)(split:Int->Option Int)(l:List aC)(i:Int):Option (List aC×Int):=bif decide (i<0)||decide (i>=(l.length:Int)) then some ([],1) else bif decide (l.length<2^29) then (xq root split (l.length+1) l i).map fun p=>(p,0) else none
theorem aae (Z:ah)(c:Cap)(l:List aC)(e:Int):bg 20 Z (.bK [.ak c (l.map aC.v),.int .i64 e])=some (.bK [lv aC.v l,.int .i64 e]):=by rw[QZ (n:=18)];have h1:bg 19 Z (.ak c (l.map aC.v))=some (lv aC.v l):=x9 (n:=17) c l aC.pc;have h2:bg 19 Z (.int .i64 e)=some (.int .i64 e):=ni rfl;rw[iG,h1,iG,h2];rfl
theorem avP {root:List aC->Option aC}{split:Int->Option Int}(hroot:∀p x,root p=some x->Pure E 67 [lv aC.v p] x.v)(hsplit:∀p x,split p=some x->Pure E 110 [.int .i64 p] (.int .i64 x)){l:List aC}{i:Int}{r:List aC×Int}(h:JL root split l i=some r):
 Pure E 63 [lv aC.v l,.int .i64 i] (.bK [lv aC.v r.1,.int .i64 r.2]):=by
 have hP:E.P=Tryz.prog:=rfl;have hres:Tryz.f63.results.toList=[.tmp 4,.tmp 5]:=rfl;refine Pure.of (fn:=Tryz.f63) (c:=Tryz.f63.body.getD .skip) rfl Tryz.func63 rfl ay ?_;generalize hfr:({d:=1,aj:=E.aj 63,tm:=fun j=>([lv aC.v l,.int .i64 i]:List V).getD j aJ}:Fr)=fr;have a0:fr.tm 0=lv aC.v l:=iU
 have a1:fr.tm 1= .int .i64 i:=iU
 have hd:fr.d=1:=BD
 have bO:fr.aj=false:=iU
 clear hfr;have hmap:(l.map aC.v).length=l.length:=eU ..;unfold JL at h;refine aD.seq (aD.region ?_);refine av.a1 ?_;refine av.a1 ?_;refine av.nil (dG.n ?_);refine aD.seq (aD.seq (aD.region ?_));refine av.a1 ?_;refine av.a1 ?_;cases hi0:decide (i<0) with
 |true=>rw[hi0,Bool.true_or,cond_true] at h;cases h;refine av.a1 ?_;refine av.s1 dV ?_;refine av.s1 dV ?_;refine av.s1 dV ?_;refine av.s1 dV ?_;refine av.o1 bC yN ?_;refine av.nil (dG.n ?_);refine aD.vB jU ?_;refine aD.seq (aD.region ?_);refine av.a1 ?_;refine av.a1 ?_;refine av.nil (dG.n (aD.ret (dG.r ?_)));rw[hres];refine pJ.bK wm (by simp only[iG,List.mapM_nil,jo,go_sem,Nat.reduceBEq, *];exact Is.rfl) ?_;exact aae _ .nil [] 1
 |false=>
  rw[hi0,Bool.false_or] at h;refine av.a1 ?_;refine av.o1 dV dS ?_;refine av.o1 dV dS ?_;refine av.o1 dV (by intro S;simp only[go_sem,Nat.reduceBEq,Nat.reduceAdd,lv,hmap, *];with_reducible exact Is.rfl) ?_;refine av.o1 dV dS ?_;refine av.o1 bC uQ ?_;refine av.nil (dG.n ?_);cases hi1:decide (i>=(l.length:Int)) with
  |true=>rw[hi1,cond_true] at h;cases h;refine aD.vB jU ?_;refine aD.seq (aD.region ?_);refine av.a1 ?_;refine av.a1 ?_;refine av.nil (dG.n (aD.ret (dG.r ?_)));rw[hres];refine pJ.bK wm (by simp only[iG,List.mapM_nil,jo,go_sem,Nat.reduceBEq, *];exact Is.rfl) ?_;exact aae _ .nil [] 1|false=>
   rw[hi1,cond_false] at h;cases hlt:decide (l.length<2^29) with
   |false=>rw[hlt] at h;cases h|true=>
   have hlt':=of_decide_eq_true hlt;rw[hlt,cond_true,aW] at h;obtain⟨p,hp,rfl⟩:=h;refine aD.xZ jU (aD.skip (dG.n ?_));have z1:iM Tryz.prog 70=some (.ak .nil []):=ay
   have z2:iM Tryz.prog 172=some .gH:=ay
   refine aD.seq (aD.region ?_);refine av.a1 ?_;refine av.nil (dG.n ?_);refine aD.seq (aD.region ?_);refine av.o1 bC PD ?_;refine av.nil (dG.n ?_);refine aD.seq (aD.region ?_);refine av.o1 bC (by intro S;rw[ajO (a:=[]) (b:=[.tmp 7,.tmp 6])];simp only[iA,List.map_nil,go_sem,Nat.reduceBEq,Nat.reduceAdd, *];exact Is.rfl) ?_;refine av.o0 bC PD ?_;refine av.nil (dG.n ?_);refine aD.seq (aD.region ?_);refine av.o1 (v:=.fn (.func 109) [] [.ref (1,7) _ 0,.ref (1,6) _ 0]) bC (by intro S;simp only[go_sem,Nat.reduceBEq,Nat.reduceAdd, *];exact Is.rfl) ?_;refine av.a1 ?_;refine av.a1 ?_;refine av.Aq (g:=109) (a:=[]) (b:=[.ref (1,7) _ 0,.ref (1,6) _ 0]) bC rfl rfl (by simp only[go_sem,Nat.reduceBEq,Nat.reduceAdd, *];rfl) rfl ?_;simp only[EB,Cg,hd];refine imp_mono (avM hroot hsplit _ _ _ _ hp 2 _ [] _ _ .sh aL dP ⟨⟨.nil, ?c6,.inl rfl⟩, ?c7⟩) (fun v Z1 NG=>?_);case c6=>rw[LU,EC _ _ _ _ aL,LU,EC _ _ _ _ aL,LU];exact su _ _ _ _
   case c7=>rw[LU];exact su _ _ _ _
   obtain⟨hps,hnx⟩:=NG;refine av.nil (dG.n ?_);obtain⟨⟨c,hc6,_⟩,_⟩:=hps;refine aD.seq (aD.region ?_);refine av.a1 ?_;refine av.a1 ?_;refine av.a1 ?_;refine av.nil (dG.n (aD.ret ?_));rw[hres];refine pJ.bK wm (by simp only[iG,List.mapM_nil,jo,go_sem,Nat.reduceBEq, *];exact Is.rfl) ?_;exact aae _ c ([]++p) 0
end Sh
end
section
open Go Go.Proofs aR
namespace Sh
set_option maxRecDepth 100000
theorem aj2 (JK:∀a b x,MX (a,b)=some x->Pure E 113 [a.v,b.v] x.v)(hsplit:∀p x,Da p=some x->Pure E 110 [.int .i64 p] (.int .i64 x)){leaf root:aC}{i n:Int}{l:List aC}{b:Bool}(h:zK leaf i n l root=some b):Pure E 70 (yD leaf i n l root) (.bool b):=by
 have h':=h;unfold zK at h';split at h'
 .rename_i hl;obtain⟨m,v,Z',e1,rfl⟩:=avD JK hsplit hl h';have h1:tX E 70 (yD leaf i n l root) (.bool b):=avE (avk (m:=m) aif) e1 rfl;refine⟨0,?_⟩;show Jb Eg (yD leaf i n l root)=some (.bool b);exact asN Eg h (ah0 rfl (fun _ _ h=>h) h1)
 .cases h'
theorem avQ (p:bB R.T [.d (.st 6),.d (.int .i64),.d (.int .i64),.d (.slice (.st 6)),.d (.st 6)])(x:bB R.T [.d .bool])(h:zK p.1 p.2.1 p.2.2.1 p.2.2.2.1 p.2.2.2.2=some x):Pure E 70 (dw R [.d (.st 6),.d (.int .i64),.d (.int .i64),.d (.slice (.st 6)),.d (.st 6)] p) (mJ (dw R [.d .bool] x)):=by obtain⟨leaf,i,n,l,root⟩:=p;exact aj2 ajR ajS h
end Sh
end
section
open Go Go.Proofs aR
namespace aR
mutual
def veq:V->V->Bool
 |.int k n,.int k' n'=>if k=k' then if n=n' then true else false else false|.str s,.str t=>if s=t then true else false|.agg l,.agg m=>JM l m|.ak .sh l,.ak .sh m=>JM l m|_,_=>false
def JM:List V->List V->Bool
 | [],[]=>true|x::l,y::m=>match veq x y with
  |true=>JM l m|false=>false
 |_,_=>false
end
mutual
theorem avR:∀(x y:V),veq x y=true->x=y:=by
 intro x y h;unfold veq at h;split at h
 .split at h
  .split at h
   .simp_all
   .cases h
  .cases h
 .split at h
  .simp_all
  .cases h
 .rw[TM _ _ h]
 .rw[TM _ _ h]
 .cases h
theorem TM:∀(l m:List V),JM l m=true->l=m:=by
 intro l m h;unfold JM at h;split at h
 .rfl
 .split at h
  .rename_i h1;rw[avR _ _ h1,TM _ _ h]
  .cases h
 .cases h
end
theorem aaf {E:Env}{f:FuncId}:∀(tab:List (List V×V)),(∀p∈tab,Pure E f p.1 p.2)->∃M,∀p∈tab,lZ E (bH E M) f p.1=some p.2
 | [],_=>⟨0,fun p hp=>by cases hp⟩
 |q::tab,h=>by
  obtain⟨M,hM⟩:=aaf tab fun p hp=>h p (jX _ hp);obtain⟨n,hn⟩:=h q (ji ..);refine⟨max M n,fun p hp=>?_⟩;rcases iC.1 hp with rfl|hp
  .exact Ce (jk (pY _ _)) hn
  .exact Ce (jk (qY _ _)) (hM p hp)
end aR
namespace Sh
set_option maxRecDepth 100000
abbrev aag (t:Int)(ls:List (List UInt8)):List V:=[.int .i64 t,.ak .sh (ls.map V.str)]
theorem jr {t:Int}{ls:List (List UInt8)}{d:aC}(h:pR t ls=d)(hb:(ls.all fun x=>decide (x.length<2^28))=true)(hs:decide (1+iY fu ls<1000/\ls.length<1000)=true):Pure E 102 (aag t ls) d.v:=by have h2:=of_decide_eq_true hs;have:=aiw 1000 (t,ls) (pR t ls) (JF (fun x hx=>by have:=kU.1 hb x hx;exact of_decide_eq_true this) RS RS RS RS RS);rw[<-h];exact this
def NI:List (List V×V):=[(aag 14 ajr,ajs.v),(aag 211 ajt,TA.v)]
theorem avS:∀p∈NI,Pure E 102 p.1 p.2:=by
 intro p hp;simp only[NI,iC,List.not_mem_nil,or_false] at hp;rcases hp with rfl|rfl
 .exact jr avc ay ay
 .exact jr avd ay ay
def NJ:List (List V×V):=[(yD TA 0 1 [] TA,.bool true)]
theorem avT:∀p∈NJ,Pure E 70 p.1 p.2:=by intro p hp;simp only[NJ,iC,List.not_mem_nil,or_false] at hp;subst hp;exact aj2 ajR ajS (by unfold zK;rw[if_pos aL];kernel_rfl)
def NK:List (List V×V)->List V->Option V
 | [],_=>none|p::l,args=>match JM args p.1 with
  |true=>some p.2|false=>NK l args
theorem aah:∀{l:List (List V×V)}{args:List V}{v:V},NK l args=some v->(args,v)∈l
 |p::l,args,v,h=>by
  unfold NK at h;split at h
  .rename_i he;cases h;rw[TM _ _ he];exact ji ..
  .exact jX _ (aah h)
noncomputable def NM (f:FuncId):Option (List V->Option V):=bif Nat.beq f 102 then some (NK NI) else bif Nat.beq f 70 then some (NK NJ) else none
theorem avU:lZ (E.sm NM) (bH (E.sm NM) 900) 11 []=some (.bool true):=ay
theorem avV {M:Nat}(hM:∀p∈NI,lZ E (bH E M) 102 p.1=some p.2)(hC:∀p∈NJ,lZ E (bH E M) 70 p.1=some p.2):∀f g,NM f=some g->∀args v,g args=some v->lZ E (bH E M) f args=some v:=by
 intro f g hf args v hv;unfold NM at hf;cases h1:Nat.beq f 102
 .rw[h1,cond_false] at hf;cases h2:Nat.beq f 70
  .rw[h2,cond_false] at hf;cases hf
  .rw[h2,cond_true] at hf;cases hf;have:=yS h2;subst this;exact hC _ (aah hv)
 .rw[h1,cond_true] at hf;cases hf;have:=yS h1;subst this;exact hM _ (aah hv)
theorem avW:Pure E 11 [] (.bool true):=by
 obtain⟨M1,h1⟩:=aaf NI avS;obtain⟨M2,h2⟩:=aaf NJ avT;refine as4 (M:=max M1 M2) (avV (fun p hp=>Ce (jk (qY _ _)) (h1 p hp)) (fun p hp=>Ce (jk (pY _ _)) (h2 p hp))) (fun f hf=>?_) bC avU;unfold NM at hf;cases h1:Nat.beq f 102
 .rw[h1,cond_false] at hf;cases h2:Nat.beq f 70
  .show MZ f=none;unfold MZ;rw[h2];rfl
  .rw[h2,cond_true] at hf;cases hf
 .rw[h1,cond_true] at hf;cases hf
theorem avX (p:bB R.T [])(x:Bool)(h:some true=some x):Pure E 11 (dw R [] p) (mJ [.bool x]):=by
 cases h;exact avW
end Sh
end
