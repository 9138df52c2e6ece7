import Derived.Test.YtdcnajadcbedkaaGreatDoorF1017
import Derived.Test.YtdcnajadcbedkaaGreatDoorF1021
set_option linter.all false
section
open Go Go.Proofs aQ
namespace aQ
mutual
def veq:V->V->Bool
 |.int k n,.int k' n'=>if k=k' then if n=n' then true else false else false|.str s,.str t=>if s=t then true else false|.agg l,.agg m=>J8 l m|.ak .sh l,.ak .sh m=>J8 l m|_,_=>false
def J8:List V->List V->Bool
 | [],[]=>true|x::l,y::m=>match veq x y with
  |true=>J8 l m|false=>false
 |_,_=>false
end
mutual
theorem azj:∀(x y:V),veq x y=true->x=y:=by
 intro x y h;unfold veq at h;split at h
 .split at h
  .split at h
   .simp_all
   .cases h
  .cases h
 .split at h
  .simp_all
  .cases h
 .rw[Uw _ _ h]
 .rw[Uw _ _ h]
 .cases h
theorem Uw:∀(l m:List V),J8 l m=true->l=m:=by
 intro l m h;unfold J8 at h;split at h
 .rfl
 .split at h
  .rename_i h1;rw[azj _ _ h1,Uw _ _ h]
  .cases h
 .cases h
end
theorem al1 {E:Env}{f:FuncId}:∀(tab:List (List V×V)),(∀p∈tab,Pure E f p.1 p.2)->∃M,∀p∈tab,mQ E (bI E M) f p.1=some p.2
 | [],_=>⟨0,fun p hp=>by cases hp⟩
 |q::tab,h=>by
  obtain⟨M,hM⟩:=al1 tab fun p hp=>h p (jT _ hp);obtain⟨n,hn⟩:=h q (jv ..);refine⟨max M n,fun p hp=>?_⟩;rcases jr.1 hp with rfl|hp
  .exact HZ (jM (qL _ _)) hn
  .exact HZ (jM (sK _ _)) (hM p hp)
end aQ
namespace Sh
set_option maxRecDepth 100000
abbrev nX (t:Int)(ls:List (List UInt8)):List V:=[.int .i64 t,.ak .sh (ls.map V.str)]
theorem iw {t:Int}{ls:List (List UInt8)}{d:au}(h:j4 t ls=d)(hb:(ls.all fun x=>decide (x.length<2^28))=true)(hs:decide (1+jA fA ls<1000/\ls.length<1000)=true):Pure E 71 (nX t ls) d.v:=by have h2:=of_decide_eq_true hs;have:=ak4 1000 (t,ls) (j4 t ls) (Od (fun x hx=>by have:=lK.1 hb x hx;exact of_decide_eq_true this) RS RS RS RS RS);rw[<-h];exact this
theorem azk:Pure E 71 (nX 361 aa0) aa1.v:=iw ay8 av av
theorem pu1:Pure E 71 (nX 362 aa2) aa3.v:=iw ay9 av av
theorem pu2:Pure E 71 (nX 361 aa4) aa5.v:=iw aza av av
theorem azl:Pure E 71 (nX 362 aa6) aa7.v:=iw azb av av
theorem azm:Pure E 71 (nX 361 aa8) aa9.v:=iw azc av av
theorem azn:Pure E 71 (nX 362 abb) abd.v:=iw azd av av
theorem azo:Pure E 71 (nX 361 abe) abf.v:=iw aze av av
theorem azp:Pure E 71 (nX 362 abg) abh.v:=iw azf av av
theorem pu8:Pure E 71 (nX 361 abj) abk.v:=iw azg av av
theorem azq:Pure E 71 (nX 362 abl) abm.v:=iw azh av av
theorem azr:Pure E 71 (nX 121 abn) abo.v:=iw azi av av
def Oh:List (List V×V):=[(nX 361 aa0,aa1.v),
 (nX 362 aa2,aa3.v),
 (nX 361 aa4,aa5.v),
 (nX 362 aa6,aa7.v),
 (nX 361 aa8,aa9.v),
 (nX 362 abb,abd.v),
 (nX 361 abe,abf.v),
 (nX 362 abg,abh.v),
 (nX 361 abj,abk.v),
 (nX 362 abl,abm.v),
 (nX 121 abn,abo.v)]
theorem azs:∀p∈Oh,Pure E 71 p.1 p.2:=by
 intro p hp;simp only[Oh,jr,List.not_mem_nil,or_false] at hp;rcases hp with rfl|rfl|rfl|rfl|rfl|rfl|rfl|rfl|rfl|rfl|rfl
 .exact azk
 .exact pu1
 .exact pu2
 .exact azl
 .exact azm
 .exact azn
 .exact azo
 .exact azp
 .exact pu8
 .exact azq
 .exact azr
def Ux:List (List V×V)->List V->Option V
 | [],_=>none|p::l,args=>match J8 args p.1 with
  |true=>some p.2|false=>Ux l args
theorem al2:∀{l:List (List V×V)}{args:List V}{v:V},Ux l args=some v->(args,v)∈l
 |p::l,args,v,h=>by
  unfold Ux at h;split at h
  .rename_i he;cases h;rw[Uw _ _ he];exact jv ..
  .exact jT _ (al2 h)
noncomputable def Oi (f:FuncId):Option (List V->Option V):=bif Nat.beq f 71 then some (Ux Oh) else TH f
theorem azt:mQ (E.sm Oi) (bI (E.sm Oi) 900) 12 []=some (.bool true):=av
theorem azu {M:Nat}(hM:∀p∈Oh,mQ E (bI E M) 71 p.1=some p.2):∀f g,Oi f=some g->∀args v,g args=some v->mQ E (bI E M) f args=some v:=by
 intro f g hf args v hv;unfold Oi at hf;cases h1:Nat.beq f 71
 .rw[h1,cond_false] at hf;have:E.mP f=some g:=hf;unfold mQ;rw[this];exact hv
 .rw[h1,cond_true] at hf;cases hf;have:=xZ h1;subst this;exact hM _ (al2 hv)
theorem azv:Pure E 12 [] (.bool true):=by
 obtain⟨M,hM⟩:=al1 Oh azs;refine awv (azu hM) (fun f hf=>?_) bD azt;unfold Oi at hf;cases h1:Nat.beq f 71
 .rw[h1,cond_false] at hf;exact hf
 .rw[h1,cond_true] at hf;cases hf
theorem azw (p:aV R.T [])(x:Bool)(h:some true=some x):Pure E 12 (bR R [] p) (jW [.bool x]):=by
 cases h;exact azv
end Sh
end
section
open Go Go.Proofs aQ
namespace Sh
set_option maxRecDepth 100000
def xG (root:List au->Option au)(split:Int->Option Int):Nat->List au->Int->Option (List au)
 |0,_,_=>none|g+1,l,i=>bif Nat.beq l.length 1 then some [] else (split (l.length:Int)).bind fun k=>bif decide (0<=k/\k<=(l.length:Int)) then (bif decide (i<k) then (xG root split g (l.take k.toNat) i).bind fun p=>(root (l.drop k.toNat)).map fun d=>p++[d]else (xG root split g (l.drop k.toNat) (IntKind.wrap .i64 (i-k))).bind fun p=>(root (l.take k.toNat)).map fun d=>p++[d]) else none
structure sj (Y:ah)(s6 s7:Nat)(acc:List au):Prop where
 c6:∃c,Y.dQ (1,6) s6=some [.ak c (acc.map au.v)]/\RI 16 Y c acc.length
 c7:Y.dQ (1,7) s7=some [.fn (.func 131) [] [.ref (1,7) s7 0,.ref (1,6) s6 0]]
section
variable {E:Env}{S:iW}{fr:Fr}{Y:ah}{st ty:Nat}{pos:String}{cu:Array Edge}{gd:Option (Nat×Bool)}
def F6 (c:Cap)(k:Int):Cap:=if k.toNat=0 then c else match c with
 |.full=>.full|_=>.sh
theorem al3 {d:Option Nat}{x h:Operand}{t e:TypeId}{sz:Nat}{c:Cap}{l:List V}{k:Int}(hx:fr.ev E x= .ak c l)(hh:fr.ev E h= .int .i64 k)(hu:E.P.underlying t=some (.slice e))(hs:dM E.P e=some sz)(hz:oK sz l=true)(h0:0<=k)(h1:k<=(l.length:Nat)):
 opC E S fr Y st ⟨d,.slice t x (some h) none none,ty,pos,cu,gd⟩=some (.ak (F6 c k) (l.drop k.toNat),fr,Y):=by
 have:jE l.length l.length (some (.int .i64 k)) none none=some (k.toNat,l.length,l.length):=by unfold jE bnd pU;simp only[Option.bind_some];rw[if_pos ⟨h0,h1⟩,Option.bind_some]
 show Option.map _ ((lF E.P Y t (fr.ev E x) (some (fr.ev E h)) none none).map fun v=>(v,Y))=_;rw[hx,hh];unfold lF F6;rw[hu];dsimp only;rw[hs,Option.bind_some,this,Option.bind_some,if_pos hz];by_cases hk:k.toNat=0
 .rw[if_pos ⟨hk,rfl,rfl⟩,if_pos hk,hk];rfl
 .rw[if_neg (fun e=>hk e.1),if_neg hk,List.take_length];cases c<;>simp
end
theorem al4 {Y:ah}{c:Cap}{n:Nat}(h:RI 16 Y c n)(k:Nat):RI 16 (Y.bump k) c n:=by
 rcases h with rfl| ⟨s,rfl,h4,h5⟩
 .exact .inl rfl
 .exact .inr ⟨s,rfl,h4,nD h5 (mg _ _)⟩
theorem sj.bump {Y:ah}{s6 s7 k:Nat}{acc:List au}(h:sj Y s6 s7 acc):sj (Y.bump k) s6 s7 acc:=by
 obtain⟨⟨c,h1,h2⟩,h3⟩:=h;refine⟨⟨c,h1,?_⟩,h3⟩;rcases h2 with rfl| ⟨s,rfl,h4,h5⟩
 .exact .inl rfl
 .exact .inr ⟨s,rfl,h4,nD h5 (mg _ _)⟩
theorem al5 (l:List au):bY (l.map au.v)=true:=by
 induction l with
 |nil=>rfl|cons a l ih=>simp only[iH,bY,au.pc,ih,Bool.and_self]
theorem al6 (Y:ah)(c:Cap)(l:List au):Is (([]++[V.ak c (l.map au.v)]++[]).mapM (bq 20 Y)) (some [lv au.v l]):=by show List.mapM (bq 20 Y) [V.ak c (l.map au.v)]=_;rw[iN,yD (n:=18) c l au.pc];rfl
theorem al7 (c:Cap)(l:List au)(d:au):Is ((([]++[V.ak c (l.map au.v)]++[]).all fun x=>aR (er x))||flat d.v) true:=by show ((aR (.ak .sh (l.map au.v))&& true)||flat d.v)=true;rw[show aR (.ak .sh (l.map au.v))=bY (l.map au.v) from tV,al5];rfl
theorem azx (c:Cap)(l:List au):aR (er (V.ak c (l.map au.v)))=true:=by show aR (.ak .sh (l.map au.v))=true;rw[show aR (.ak .sh (l.map au.v))=bY (l.map au.v) from tV,al5]
theorem al8 (d:au):Cb E 65 1 [(0,d.v)]=some (.ak .full [d.v]):=av
theorem al9 {Y:ah}{c:Cap}{l:List au}{d:au}{c2:Cap}(hc:RI 16 Y c l.length)(hl:l.length<2^30)(st:Nat):∃s',Ct Tryz.prog Y st 65 65 (.ak c (l.map au.v)) (.ak c2 [d.v])=some (.ak (.own 16 s') ((l++[d]).map au.v),Y.eB s' (l.length+1))/\(s'<Y.next\/s'=st):=by
 have ha:ER Tryz.prog 65 65 16 16 (.agg (List.replicate 16 (.int .u8 0))):=by refine ER.mk 23 true ?_ ?_ ?_ ?_ ?_ rfl aK rfl ?_<;>kernel_rfl
 have hr:bZ ((l.map au.v).length+[d.v].length) 16=true:=by unfold bZ;simp only[fH,List.length_cons,List.length_nil,aZ,decide_eq_true_eq];omega
 rcases hc with rfl| ⟨s,rfl,h4,h5⟩
 .refine⟨st,?_,.inr rfl⟩;have h:=atp (Y:=Y) (st:=st) (c2:=c2) ha (Bn [d]) (Bn l) hr;exact h.trans aD
 .refine⟨s,?_,.inl h5⟩;have h:=ato (Y:=Y) (st:=st) (c2:=c2) ha (Bn [d]) (Bn l) hr (by rw[fH];exact h4);exact h.trans aD
theorem ama {root:List au->Option au}{split:Int->Option Int}:∀(g:Nat)(l:List au)(i:Int)(p:List au),xG root split g l i=some p->p.length<g:=by
 intro g;induction g with
 |zero=>intro l i p h;cases h|succ g ih=>
  intro l i p h;unfold xG at h;cases hb:Nat.beq l.length 1 with
  |true=>rw[hb,cond_true] at h;cases h;simp|false=>
   rw[hb,cond_false,iP] at h;obtain⟨k,_,h⟩:=h;cases hk:decide (0<=k/\k<=(l.length:Int)) with
   |false=>rw[hk] at h;cases h|true=>
    rw[hk,cond_true] at h;cases hi:decide (i<k) with
    |true=>rw[hi,cond_true,iP] at h;obtain⟨q,hq,h⟩:=h;rw[aY] at h;obtain⟨d,_,rfl⟩:=h;have:=ih _ _ _ hq;simp;omega
    |false=>rw[hi,cond_false,iP] at h;obtain⟨q,hq,h⟩:=h;rw[aY] at h;obtain⟨d,_,rfl⟩:=h;have:=ih _ _ _ hq;simp;omega
theorem amb {all:List Oper}{fr:Fr}{d x ty:Nat}{pos:String}{cu:Array Edge}{c:Cap}{l:List au}(hx:fr.tm x= .ak c (l.map au.v)):
 Is (d9 E all fr ⟨some d,.call ⟨.value (.func 98), #[.tmp x], #[65]⟩,ty,pos,cu,none⟩ true) ⟨false,false,[.slot x],[.slot d]⟩:=by
 have hf:gB E fr ⟨some d,.call ⟨.value (.func 98), #[.tmp x], #[65]⟩,ty,pos,cu,none⟩=nA []:=by
  unfold gB;have h1:lU E fr ⟨some d,.call ⟨.value (.func 98), #[.tmp x], #[65]⟩,ty,pos,cu,none⟩ (.func 98)=false:=zx (g:=98) (a:=[]) (b:=[]) rfl (fun _ _=>rfl);have h2:fr.ev E (.func 98)= .fn (.func 98) [] []:=rfl;have h3:E.imp 98=false:=rfl;have h4:(([]++(#[Operand.tmp x].toList.map (fr.ev E))++[]).all fun v=>aR (er v))=true:=by show (aR (er (fr.tm x))&& true)=true;rw[hx,azx];rfl
  simp only[h1,h2,h3,h4,if_true,if_false,dG]
 show (⟨(gB E fr _).qw,(gB E fr _).mh,_++(gB E fr _).t,_++(gB E fr _).w⟩:dP)=_;rw[hf];rfl
theorem azy {root:List au->Option au}{split:Int->Option Int}(hroot:∀p x,root p=some x->Pure E 98 [lv au.v p] x.v)(hsplit:∀p x,split p=some x->Pure E 132 [.int .i64 p] (.int .i64 x)):
 ∀(g:Nat)(l:List au)(i:Int)(p:List au),xG root split g l i=some p->∀(dd:Nat)(Y:ah)(acc:List au)(s6 s7:Nat)(c0:Cap),1<dd->acc.length+g<2^30->sj Y s6 s7 acc->
  iX E 131 [.ak c0 (l.map au.v),.int .i64 i,.ref (1,7) s7 0,.ref (1,6) s6 0] dd Y (fun v Y'=>sj Y' s6 s7 (acc++p)/\Y.next<=Y'.next):=by
 intro g;induction g with
 |zero=>intro l i p h;cases h|succ g ih=>
  intro l i p h dd Y acc s6 s7 c0 aF8 hlen hps;have hP:E.P=Tryz.prog:=rfl;have e1:gT Tryz.prog 189 [.fn (.func 131) [] [.ref (1,7) s7 0,.ref (1,6) s6 0]] 0=some (.fn (.func 131) [] [.ref (1,7) s7 0,.ref (1,6) s6 0]):=rfl;have e2:dM E.P 23=some 16:=av
  have e6:E.P.underlying 65=some (.slice 23):=av
  have azz:=hps;obtain⟨⟨cp,hc6,hcp⟩,aF9⟩:=azz;have hres:Tryz.f131.results.toList=[]:=rfl;refine iX.of (fn:=Tryz.f131) (c:=Tryz.f131.body.getD .skip) Tryz.func131 rfl av ?_;generalize hfr:({d:=dd,aj:=E.aj 131,tm:=fun j=>([.ak c0 (l.map au.v),.int .i64 i,.ref (1,7) s7 0,.ref (1,6) s6 0]:List V).getD j aP}:Fr)=fr;have a0:fr.tm 0= .ak c0 (l.map au.v):=iM
  have a1:fr.tm 1= .int .i64 i:=iM
  have a2:fr.tm 2= .ref (1,7) s7 0:=iM
  have a3:fr.tm 3= .ref (1,6) s6 0:=iM
  have hd:fr.d=dd:=Al
  have bQ:fr.aj=false:=iM
  clear hfr;have hmap:(l.map au.v).length=l.length:=fH ..;refine aF.seq (aF.seq (aF.region ?_));refine ay.a1 ?_;refine ay.a1 ?_;refine ay.a1 ?_;refine ay.nil (dh.n ?_);unfold xG at h;cases hb:Nat.beq l.length 1 with
  |true=>rw[hb,cond_true] at h;cases h;have hl:l.length=1:=xZ hb;refine aF.uw jB (aF.ret ?_);rw[hres];exact⟨[],rfl,by rw[jD];exact sj.bump hps,mg _ _⟩|false=>
   have hl:l.length≠1:=fun e=>by rw[e] at hb;cases hb
   have hl':((l.length:Int)==1)=false:=dw
   rw[hb,cond_false,iP] at h;obtain⟨k,hk,h⟩:=h;cases hkk:decide (0<=k/\k<=(l.length:Int)) with
   |false=>rw[hkk] at h;cases h|true=>
   rw[hkk,cond_true] at h;obtain⟨k0,k1⟩:=of_decide_eq_true hkk;refine aF.vG jB (aF.skip (dh.n ?_));refine aF.seq (aF.region ?_);refine ay.a1 ?_;refine ay.a1 ?_;refine ay.RD (hsplit _ _ hk) bD (by simp only[go_sem,Nat.reduceBEq,Nat.reduceAdd,hmap, *];exact Is.rfl) jB bD ?_;refine ay.a1 ?_;refine ay.nil (dh.n ?_);refine aF.seq (aF.region ?_);refine ay.a1 ?_;refine ay.a1 ?_;refine ay.a1 ?_;refine ay.nil (dh.n ?_);cases hik:decide (i<k) with
   |true=>
    rw[hik,cond_true,iP] at h;obtain⟨q,hq,h⟩:=h;rw[aY] at h;obtain⟨dg,hdg,rfl⟩:=h;refine aF.uw jB ?_;refine aF.seq (aF.ahK (fun _=>?_) av);refine dJ.o1 bD dY lu ?_;refine dJ.o1 bD dY lu ?_;refine dJ.o1 bD dY lu ?_;refine dJ.o1 bD dY lu ?_;refine dJ.o1 (v:=.ak .full ((l.take k.toNat).map au.v)) bD (by intro S;rw[List.map_take];exact Zu (c:=c0) iL iL iL e6 e2 (Cu (Bn l)) k0 QG) lu ?_;refine dJ.o1 bD dY lu ?_;refine dJ.AJ (g:=131) (a:=[]) (b:=[.ref (1,7) s7 0,.ref (1,6) s6 0]) bD rfl rfl xU rfl ?_;simp only[EO,Cq,hd];change iX E 131 [.ak .full ((l.take k.toNat).map au.v),.int .i64 i,.ref (1,7) s7 0,.ref (1,6) s6 0] (dd+1) _ _;obtain⟨n,v,aB,hn,Oj,hnx⟩:=ih _ _ _ hq (dd+1) _ acc s6 s7 .full RS RS (sj.bump (sj.bump (sj.bump (sj.bump hps))));refine⟨n,v,aB,hn,?_⟩;refine dJ.nil av (Cr.i (dh.n ?_));obtain⟨⟨cq,azA,hcq⟩,abp⟩:=Oj;refine aF.ahP (fun tL Ol=>?_) av;have hnk:7<tL:=(by rw[Ol];decide);clear Ol;refine dJ.o1 bD dY lu ?_;refine dJ.o1 bD dY lu ?_;refine dJ.o1 bD dY lu ?_;refine dJ.o1 (v:=.ak (F6 c0 k) ((l.drop k.toNat).map au.v)) bD (by intro S;rw[List.map_drop];exact al3 (c:=c0) iL iL e6 e2 (Cu (Bn l)) k0 QG) lu ?_;refine dJ.RD (hroot _ _ hdg) bD (by simp only[go_sem,Nat.reduceBEq,Nat.reduceAdd, *];exact al6 _ _ _) (by simp only[go_sem,Nat.reduceBEq,Nat.reduceAdd, *];exact al7 _ _ _) bD (amb (c:=F6 c0 k) (l:=l.drop k.toNat) iL) ?_;refine dJ.o1 (v:=.ak .full [dg.v]) bD (by intro S;simp only[go_sem,Nat.reduceBEq,Nat.reduceAdd,al8, *];with_reducible exact Is.rfl) lu ?_;obtain⟨s',hs',hs2⟩:=al9 (Y:=aB.bump tL) (c2:=.full) (d:=dg) (l:=acc++q) (al4 hcq tL) (by have:=ama _ _ _ _ hq;rw[fG];omega) (aB.next+1+1+1+1+1+1);refine dJ.o1 (v:=.ak (.own 16 s') ((acc++q++[dg]).map au.v)) (aB:=(aB.bump tL).eB s' ((acc++q).length+1)) bD (fun S=>?_) lu ?_
    .rw[Xn (c:=cq) (l:=(acc++q).map au.v) iL iL];simp only[go_sem,Nat.reduceBEq,Nat.reduceAdd, *];exact Is.rfl
    refine dJ.o0 bD Qr lu ?_;refine dJ.nil av (Cr.i ?_);rw[hres];refine⟨[],rfl,?_⟩;show sj _ _ _ (acc++(q++[dg]))/\_;rw[<-fP];refine⟨⟨⟨_,sP _ _ _ _,.inr ⟨s',rfl,?_,?_⟩⟩,?_⟩,?_⟩
    .show upd aB.top s' _ s'=_;simp[upd];omega
    .show s'<aB.next+tL;rcases hs2 with h2|h2
     .exact h2
     .omega
    .rw[EP _ _ _ _ aK];exact abp
    .show Y.next<=aB.next+tL;have:Y.next<=aB.next:=eZ (eZ (eZ (eZ (mg _ _) (mg _ _)) (mg _ _)) (mg _ _)) hnx;omega
   |false=>
    rw[hik,cond_false,iP] at h;obtain⟨q,hq,h⟩:=h;rw[aY] at h;obtain⟨dg,hdg,rfl⟩:=h;refine aF.vG jB ?_;refine aF.seq (aF.ahK (fun _=>?_) av);refine dJ.o1 bD dY lu ?_;refine dJ.o1 bD dY lu ?_;refine dJ.o1 bD dY lu ?_;refine dJ.o1 (v:=.ak (F6 c0 k) ((l.drop k.toNat).map au.v)) bD (by intro S;rw[List.map_drop];exact al3 (c:=c0) iL iL e6 e2 (Cu (Bn l)) k0 QG) lu ?_;refine dJ.o1 bD dY lu ?_;refine dJ.o1 bD dY lu ?_;refine dJ.o1 bD dY lu ?_;refine dJ.AJ (g:=131) (a:=[]) (b:=[.ref (1,7) s7 0,.ref (1,6) s6 0]) bD rfl rfl xU rfl ?_;simp only[EO,Cq,hd];change iX E 131 [.ak (F6 c0 k) ((l.drop k.toNat).map au.v),.int .i64 (IntKind.wrap .i64 (i-k)),.ref (1,7) s7 0,.ref (1,6) s6 0] (dd+1) _ _;obtain⟨n,v,aB,hn,Oj,hnx⟩:=ih _ _ _ hq (dd+1) _ acc s6 s7 (F6 c0 k) RS RS (sj.bump (sj.bump (sj.bump (sj.bump hps))));refine⟨n,v,aB,hn,?_⟩;refine dJ.nil av (Cr.i (dh.n ?_));obtain⟨⟨cq,azA,hcq⟩,abp⟩:=Oj;refine aF.ahP (fun tL Ol=>?_) av;have hnk:7<tL:=(by rw[Ol];decide);clear Ol;refine dJ.o1 bD dY lu ?_;refine dJ.o1 bD dY lu ?_;refine dJ.o1 bD dY lu ?_;refine dJ.o1 bD dY lu ?_;refine dJ.o1 (v:=.ak .full ((l.take k.toNat).map au.v)) bD (by intro S;rw[List.map_take];exact Zu (c:=c0) iL iL iL e6 e2 (Cu (Bn l)) k0 QG) lu ?_;refine dJ.RD (hroot _ _ hdg) bD (by simp only[go_sem,Nat.reduceBEq,Nat.reduceAdd, *];exact al6 _ _ _) (by simp only[go_sem,Nat.reduceBEq,Nat.reduceAdd, *];exact al7 _ _ _) bD (amb (c:=.full) (l:=l.take k.toNat) iL) ?_;refine dJ.o1 (v:=.ak .full [dg.v]) bD (by intro S;simp only[go_sem,Nat.reduceBEq,Nat.reduceAdd,al8, *];with_reducible exact Is.rfl) lu ?_;obtain⟨s',hs',hs2⟩:=al9 (Y:=aB.bump tL) (c2:=.full) (d:=dg) (l:=acc++q) (al4 hcq tL) (by have:=ama _ _ _ _ hq;rw[fG];omega) (aB.next+1+1+1+1+1+1+1);refine dJ.o1 (v:=.ak (.own 16 s') ((acc++q++[dg]).map au.v)) (aB:=(aB.bump tL).eB s' ((acc++q).length+1)) bD (fun S=>?_) lu ?_
    .rw[Xn (c:=cq) (l:=(acc++q).map au.v) iL iL];simp only[go_sem,Nat.reduceBEq,Nat.reduceAdd, *];exact Is.rfl
    refine dJ.o0 bD Qr lu ?_;refine dJ.nil av (Cr.i ?_);rw[hres];refine⟨[],rfl,?_⟩;show sj _ _ _ (acc++(q++[dg]))/\_;rw[<-fP];refine⟨⟨⟨_,sP _ _ _ _,.inr ⟨s',rfl,?_,?_⟩⟩,?_⟩,?_⟩
    .show upd aB.top s' _ s'=_;simp[upd];omega
    .show s'<aB.next+tL;rcases hs2 with h2|h2
     .exact h2
     .omega
    .rw[EP _ _ _ _ aK];exact abp
    .show Y.next<=aB.next+tL;have:Y.next<=aB.next:=eZ (eZ (eZ (eZ (mg _ _) (mg _ _)) (mg _ _)) (mg _ _)) hnx;omega
def J9 (root:List au->Option au)(split:Int->Option Int)(l:List au)(i:Int):Option (List au×Int):=bif decide (i<0)||decide (i>=(l.length:Int)) then some ([],1) else bif decide (l.length<2^29) then (xG root split (l.length+1) l i).map fun p=>(p,0) else none
theorem abq (Y:ah)(c:Cap)(l:List au)(e:Int):bq 20 Y (.bV [.ak c (l.map au.v),.int .i64 e])=some (.bV [lv au.v l,.int .i64 e]):=by rw[RH (n:=18)];have h1:bq 19 Y (.ak c (l.map au.v))=some (lv au.v l):=yD (n:=17) c l au.pc;have h2:bq 19 Y (.int .i64 e)=some (.int .i64 e):=ou rfl;rw[iN,h1,iN,h2];rfl
theorem azB {root:List au->Option au}{split:Int->Option Int}(hroot:∀p x,root p=some x->Pure E 98 [lv au.v p] x.v)(hsplit:∀p x,split p=some x->Pure E 132 [.int .i64 p] (.int .i64 x)){l:List au}{i:Int}{r:List au×Int}(h:J9 root split l i=some r):
 Pure E 87 [lv au.v l,.int .i64 i] (.bV [lv au.v r.1,.int .i64 r.2]):=by
 have hP:E.P=Tryz.prog:=rfl;have hres:Tryz.f87.results.toList=[.tmp 4,.tmp 5]:=rfl;refine Pure.of (fn:=Tryz.f87) (c:=Tryz.f87.body.getD .skip) rfl Tryz.func87 rfl av ?_;generalize hfr:({d:=1,aj:=E.aj 87,tm:=fun j=>([lv au.v l,.int .i64 i]:List V).getD j aP}:Fr)=fr;have a0:fr.tm 0=lv au.v l:=iM
 have a1:fr.tm 1= .int .i64 i:=iM
 have hd:fr.d=1:=Al
 have bQ:fr.aj=false:=iM
 clear hfr;have hmap:(l.map au.v).length=l.length:=fH ..;unfold J9 at h;refine aF.seq (aF.region ?_);refine ay.a1 ?_;refine ay.a1 ?_;refine ay.nil (dh.n ?_);refine aF.seq (aF.seq (aF.region ?_));refine ay.a1 ?_;refine ay.a1 ?_;cases hi0:decide (i<0) with
 |true=>rw[hi0,Bool.true_or,cond_true] at h;cases h;refine ay.a1 ?_;refine ay.s1 dZ ?_;refine ay.s1 dZ ?_;refine ay.s1 dZ ?_;refine ay.s1 dZ ?_;refine ay.o1 bD y8 ?_;refine ay.nil (dh.n ?_);refine aF.uw jB ?_;refine aF.seq (aF.region ?_);refine ay.a1 ?_;refine ay.a1 ?_;refine ay.nil (dh.n (aF.ret (dh.r ?_)));rw[hres];refine oN.bV tT (by simp only[iN,List.mapM_nil,jC,go_sem,Nat.reduceBEq, *];exact Is.rfl) ?_;exact abq _ .nil [] 1
 |false=>
  rw[hi0,Bool.false_or] at h;refine ay.a1 ?_;refine ay.o1 dZ dY ?_;refine ay.o1 dZ dY ?_;refine ay.o1 dZ (by intro S;simp only[go_sem,Nat.reduceBEq,Nat.reduceAdd,lv,hmap, *];with_reducible exact Is.rfl) ?_;refine ay.o1 dZ dY ?_;refine ay.o1 bD uU ?_;refine ay.nil (dh.n ?_);cases hi1:decide (i>=(l.length:Int)) with
  |true=>rw[hi1,cond_true] at h;cases h;refine aF.uw jB ?_;refine aF.seq (aF.region ?_);refine ay.a1 ?_;refine ay.a1 ?_;refine ay.nil (dh.n (aF.ret (dh.r ?_)));rw[hres];refine oN.bV tT (by simp only[iN,List.mapM_nil,jC,go_sem,Nat.reduceBEq, *];exact Is.rfl) ?_;exact abq _ .nil [] 1|false=>
   rw[hi1,cond_false] at h;cases hlt:decide (l.length<2^29) with
   |false=>rw[hlt] at h;cases h|true=>
   have hlt':=of_decide_eq_true hlt;rw[hlt,cond_true,aY] at h;obtain⟨p,hp,rfl⟩:=h;refine aF.vG jB (aF.skip (dh.n ?_));have z1:jc Tryz.prog 65=some (.ak .nil []):=av
   have z2:jc Tryz.prog 189=some .gL:=av
   refine aF.seq (aF.region ?_);refine ay.a1 ?_;refine ay.nil (dh.n ?_);refine aF.seq (aF.region ?_);refine ay.o1 bD Qr ?_;refine ay.nil (dh.n ?_);refine aF.seq (aF.region ?_);refine ay.o1 bD (by intro S;rw[akX (a:=[]) (b:=[.tmp 7,.tmp 6])];simp only[iH,List.map_nil,go_sem,Nat.reduceBEq,Nat.reduceAdd, *];exact Is.rfl) ?_;refine ay.o0 bD Qr ?_;refine ay.nil (dh.n ?_);refine aF.seq (aF.region ?_);refine ay.o1 (v:=.fn (.func 131) [] [.ref (1,7) _ 0,.ref (1,6) _ 0]) bD (by intro S;simp only[go_sem,Nat.reduceBEq,Nat.reduceAdd, *];exact Is.rfl) ?_;refine ay.a1 ?_;refine ay.a1 ?_;refine ay.AJ (g:=131) (a:=[]) (b:=[.ref (1,7) _ 0,.ref (1,6) _ 0]) bD rfl rfl (by simp only[go_sem,Nat.reduceBEq,Nat.reduceAdd, *];rfl) rfl ?_;simp only[EO,Cq,hd];refine imp_mono (azy hroot hsplit _ _ _ _ hp 2 _ [] _ _ .sh aK dw ⟨⟨.nil, ?c6,.inl rfl⟩, ?c7⟩) (fun v aB Oj=>?_);case c6=>rw[Mv,EP _ _ _ _ aK,Mv,EP _ _ _ _ aK,Mv];exact sP _ _ _ _
   case c7=>rw[Mv];exact sP _ _ _ _
   obtain⟨hps,hnx⟩:=Oj;refine ay.nil (dh.n ?_);obtain⟨⟨c,hc6,_⟩,_⟩:=hps;refine aF.seq (aF.region ?_);refine ay.a1 ?_;refine ay.a1 ?_;refine ay.a1 ?_;refine ay.nil (dh.n (aF.ret ?_));rw[hres];refine oN.bV tT (by simp only[iN,List.mapM_nil,jC,go_sem,Nat.reduceBEq, *];exact Is.rfl) ?_;exact abq _ c ([]++p) 0
end Sh
end
section
open Go Go.Proofs aQ
namespace Sh
set_option maxRecDepth 100000
theorem azC (Jz:∀a b x,Nu (a,b)=some x->Pure E 141 [a.v,b.v] x.v)(hsplit:∀p x,Dj p=some x->Pure E 132 [.int .i64 p] (.int .i64 x)){leaf root:au}{i n:Int}{l:List au}{b:Bool}(h:Bl leaf i n l root=some b):Pure E 100 (zQ leaf i n l root) (.bool b):=by
 have h':=h;unfold Bl at h';split at h'
 .rename_i hl;obtain⟨m,v,Y',e1,rfl⟩:=aw8 Jz hsplit hl h';have h1:rT E 100 (zQ leaf i n l root) (.bool b):=aw9 (awP (m:=m) akv) e1 rfl;refine⟨0,?_⟩;show Jo Eg (zQ leaf i n l root)=some (.bool b);exact av7 Eg h (akn rfl (fun _ _ h=>h) h1)
 .cases h'
theorem azD (p:aV R.T [.d (.st 0),.d (.int .i64),.d (.int .i64),.d (.slice (.st 0)),.d (.st 0)])(x:aV R.T [.d .bool])(h:Bl p.1 p.2.1 p.2.2.1 p.2.2.2.1 p.2.2.2.2=some x):Pure E 100 (bR R [.d (.st 0),.d (.int .i64),.d (.int .i64),.d (.slice (.st 0)),.d (.st 0)] p) (jW (bR R [.d .bool] x)):=by obtain⟨leaf,i,n,l,root⟩:=p;exact azC ay6 ay7 h
end Sh
end
