import Derived.Test.YtdcnajadcbedkaaGreatDoorF917
import Derived.Test.YtdcnajadcbedkaaGreatDoorF921
set_option linter.all false
section
open Go Go.Proofs aR
namespace aR
mutual
def veq:V->V->Bool
 |.int k n,.int k' n'=>if k=k' then if n=n' then true else false else false|.str s,.str t=>if s=t then true else false|.agg l,.agg m=>Kq l m|.ak .sh l,.ak .sh m=>Kq l m|_,_=>false
def Kq:List V->List V->Bool
 | [],[]=>true|x::l,y::m=>match veq x y with
  |true=>Kq l m|false=>false
 |_,_=>false
end
mutual
theorem az4:∀(x y:V),veq x y=true->x=y:=by
 intro x y h;unfold veq at h;split at h
 .split at h
  .split at h
   .simp_all
   .cases h
  .cases h
 .split at h
  .simp_all
  .cases h
 .rw[UO _ _ h]
 .rw[UO _ _ h]
 .cases h
theorem UO:∀(l m:List V),Kq l m=true->l=m:=by
 intro l m h;unfold Kq at h;split at h
 .rfl
 .split at h
  .rename_i h1;rw[az4 _ _ h1,UO _ _ h]
  .cases h
 .cases h
end
theorem amR {E:Env}{f:FuncId}:∀(tab:List (List V×V)),(∀p∈tab,Pure E f p.1 p.2)->∃M,∀p∈tab,mP E (bJ E M) f p.1=some p.2
 | [],_=>⟨0,fun p hp=>by cases hp⟩
 |q::tab,h=>by
  obtain⟨M,hM⟩:=amR tab fun p hp=>h p (kQ _ hp);obtain⟨n,hn⟩:=h q (jW ..);refine⟨max M n,fun p hp=>?_⟩;rcases jd.1 hp with rfl|hp
  .exact Ip (jP (qG _ _)) hn
  .exact Ip (jP (sG _ _)) (hM p hp)
end aR
namespace Sh
set_option maxRecDepth 100000
abbrev nT (t:Int)(ls:List (List UInt8)):List V:=[.int .i64 t,.ak .sh (ls.map V.str)]
theorem iw {t:Int}{ls:List (List UInt8)}{d:au}(h:jk t ls=d)(hb:(ls.all fun x=>decide (x.length<2^28))=true)(hs:decide (1+jD fC ls<1000/\ls.length<1000)=true):Pure E 71 (nT t ls) d.v:=by have h2:=of_decide_eq_true hs;have:=alV 1000 (t,ls) (jk t ls) (Oy (fun x hx=>by have:=lK.1 hb x hx;exact of_decide_eq_true this) RS RS RS RS RS);rw[<-h];exact this
theorem az5:Pure E 71 (nT 361 abw) abx.v:=iw azT av av
theorem pu1:Pure E 71 (nT 362 aby) abz.v:=iw azU av av
theorem pu2:Pure E 71 (nT 361 abA) abB.v:=iw azV av av
theorem az6:Pure E 71 (nT 362 abC) abD.v:=iw azW av av
theorem az7:Pure E 71 (nT 361 abE) abF.v:=iw azX av av
theorem az8:Pure E 71 (nT 362 abG) abH.v:=iw azY av av
theorem az9:Pure E 71 (nT 361 abI) abJ.v:=iw azZ av av
theorem aAa:Pure E 71 (nT 362 abK) abL.v:=iw az0 av av
theorem pu8:Pure E 71 (nT 361 abM) abN.v:=iw az1 av av
theorem aAb:Pure E 71 (nT 362 abO) abP.v:=iw az2 av av
theorem aAc:Pure E 71 (nT 121 abQ) abR.v:=iw az3 av av
def Oz:List (List V×V):=[(nT 361 abw,abx.v),
 (nT 362 aby,abz.v),
 (nT 361 abA,abB.v),
 (nT 362 abC,abD.v),
 (nT 361 abE,abF.v),
 (nT 362 abG,abH.v),
 (nT 361 abI,abJ.v),
 (nT 362 abK,abL.v),
 (nT 361 abM,abN.v),
 (nT 362 abO,abP.v),
 (nT 121 abQ,abR.v)]
theorem aAd:∀p∈Oz,Pure E 71 p.1 p.2:=by
 intro p hp;simp only[Oz,jd,List.not_mem_nil,or_false] at hp;rcases hp with rfl|rfl|rfl|rfl|rfl|rfl|rfl|rfl|rfl|rfl|rfl
 .exact az5
 .exact pu1
 .exact pu2
 .exact az6
 .exact az7
 .exact az8
 .exact az9
 .exact aAa
 .exact pu8
 .exact aAb
 .exact aAc
def UQ:List (List V×V)->List V->Option V
 | [],_=>none|p::l,args=>match Kq args p.1 with
  |true=>some p.2|false=>UQ l args
theorem amS:∀{l:List (List V×V)}{args:List V}{v:V},UQ l args=some v->(args,v)∈l
 |p::l,args,v,h=>by
  unfold UQ at h;split at h
  .rename_i he;cases h;rw[UO _ _ he];exact jW ..
  .exact kQ _ (amS h)
noncomputable def OA (f:FuncId):Option (List V->Option V):=bif Nat.beq f 71 then some (UQ Oz) else TW f
theorem aAe:mP (E.sm OA) (bJ (E.sm OA) 900) 12 []=some (.bool true):=av
theorem aAf {M:Nat}(hM:∀p∈Oz,mP E (bJ E M) 71 p.1=some p.2):∀f g,OA f=some g->∀args v,g args=some v->mP E (bJ E M) f args=some v:=by
 intro f g hf args v hv;unfold OA at hf;cases h1:Nat.beq f 71
 .rw[h1,cond_false] at hf;have:E.mO f=some g:=hf;unfold mP;rw[this];exact hv
 .rw[h1,cond_true] at hf;cases hf;have:=zo h1;subst this;exact hM _ (amS hv)
theorem aAg:Pure E 12 [] (.bool true):=by
 obtain⟨M,hM⟩:=amR Oz aAd;refine axn (aAf hM) (fun f hf=>?_) bD aAe;unfold OA at hf;cases h1:Nat.beq f 71
 .rw[h1,cond_false] at hf;exact hf
 .rw[h1,cond_true] at hf;cases hf
theorem aAh (p:aT R.T [])(x:Bool)(h:some true=some x):Pure E 12 (bM R [] p) (jy [.bool x]):=by
 cases h;exact aAg
end Sh
end
section
open Go Go.Proofs aR
namespace Sh
set_option maxRecDepth 100000
def yS (root:List au->Option au)(split:Int->Option Int):Nat->List au->Int->Option (List au)
 |0,_,_=>none|g+1,l,i=>bif Nat.beq l.length 1 then some [] else (split (l.length:Int)).bind fun k=>bif decide (0<=k/\k<=(l.length:Int)) then (bif decide (i<k) then (yS root split g (l.take k.toNat) i).bind fun p=>(root (l.drop k.toNat)).map fun d=>p++[d]else (yS root split g (l.drop k.toNat) (IntKind.wrap .i64 (i-k))).bind fun p=>(root (l.take k.toNat)).map fun d=>p++[d]) else none
structure rV (Y:ah)(s6 s7:Nat)(acc:List au):Prop where
 c6:∃c,Y.dS (1,6) s6=some [.ak c (acc.map au.v)]/\R6 16 Y c acc.length
 c7:Y.dS (1,7) s7=some [.fn (.func 131) [] [.ref (1,7) s7 0,.ref (1,6) s6 0]]
section
variable {E:Env}{S:iV}{fr:Fr}{Y:ah}{st ty:Nat}{pos:String}{cK:Array Edge}{gd:Option (Nat×Bool)}
def Gm (c:Cap)(k:Int):Cap:=if k.toNat=0 then c else match c with
 |.full=>.full|_=>.sh
theorem amT {d:Option Nat}{x h:Operand}{t e:TypeId}{sz:Nat}{c:Cap}{l:List V}{k:Int}(hx:fr.ev E x= .ak c l)(hh:fr.ev E h= .int .i64 k)(hu:E.P.underlying t=some (.slice e))(hs:dO E.P e=some sz)(hz:oF sz l=true)(h0:0<=k)(h1:k<=(l.length:Nat)):
 opC E S fr Y st ⟨d,.slice t x (some h) none none,ty,pos,cK,gd⟩=some (.ak (Gm c k) (l.drop k.toNat),fr,Y):=by
 have:jH l.length l.length (some (.int .i64 k)) none none=some (k.toNat,l.length,l.length):=by unfold jH bnd pQ;simp only[Option.bind_some];rw[if_pos ⟨h0,h1⟩,Option.bind_some]
 show Option.map _ ((lC E.P Y t (fr.ev E x) (some (fr.ev E h)) none none).map fun v=>(v,Y))=_;rw[hx,hh];unfold lC Gm;rw[hu];dsimp only;rw[hs,Option.bind_some,this,Option.bind_some,if_pos hz];by_cases hk:k.toNat=0
 .rw[if_pos ⟨hk,rfl,rfl⟩,if_pos hk,hk];rfl
 .rw[if_neg (fun e=>hk e.1),if_neg hk,List.take_length];cases c<;>simp
end
theorem amU {Y:ah}{c:Cap}{n:Nat}(h:R6 16 Y c n)(k:Nat):R6 16 (Y.bump k) c n:=by
 rcases h with rfl| ⟨s,rfl,h4,h5⟩
 .exact .inl rfl
 .exact .inr ⟨s,rfl,h4,nC h5 (mg _ _)⟩
theorem rV.bump {Y:ah}{s6 s7 k:Nat}{acc:List au}(h:rV Y s6 s7 acc):rV (Y.bump k) s6 s7 acc:=by
 obtain⟨⟨c,h1,h2⟩,h3⟩:=h;refine⟨⟨c,h1,?_⟩,h3⟩;rcases h2 with rfl| ⟨s,rfl,h4,h5⟩
 .exact .inl rfl
 .exact .inr ⟨s,rfl,h4,nC h5 (mg _ _)⟩
theorem amV (l:List au):cu (l.map au.v)=true:=by
 induction l with
 |nil=>rfl|cons a l ih=>simp only[iH,cu,au.pc,ih,Bool.and_self]
theorem amW (Y:ah)(c:Cap)(l:List au):Is (([]++[V.ak c (l.map au.v)]++[]).mapM (bA 20 Y)) (some [lv au.v l]):=by show List.mapM (bA 20 Y) [V.ak c (l.map au.v)]=_;rw[iM,yD (n:=18) c l au.pc];rfl
theorem amX (c:Cap)(l:List au)(d:au):Is ((([]++[V.ak c (l.map au.v)]++[]).all fun x=>aQ (er x))||flat d.v) true:=by show ((aQ (.ak .sh (l.map au.v))&& true)||flat d.v)=true;rw[show aQ (.ak .sh (l.map au.v))=cu (l.map au.v) from tL,amV];rfl
theorem aAi (c:Cap)(l:List au):aQ (er (V.ak c (l.map au.v)))=true:=by show aQ (.ak .sh (l.map au.v))=true;rw[show aQ (.ak .sh (l.map au.v))=cu (l.map au.v) from tL,amV]
theorem amY (d:au):Cn E 65 1 [(0,d.v)]=some (.ak .full [d.v]):=av
theorem amZ {Y:ah}{c:Cap}{l:List au}{d:au}{c2:Cap}(hc:R6 16 Y c l.length)(hl:l.length<2^30)(st:Nat):∃s',CG Tryz.prog Y st 65 65 (.ak c (l.map au.v)) (.ak c2 [d.v])=some (.ak (.own 16 s') ((l++[d]).map au.v),Y.eB s' (l.length+1))/\(s'<Y.next\/s'=st):=by
 have ha:Fb Tryz.prog 65 65 16 16 (.agg (List.replicate 16 (.int .u8 0))):=by refine Fb.mk 23 true ?_ ?_ ?_ ?_ ?_ rfl aG rfl ?_<;>kernel_rfl
 have hr:cB ((l.map au.v).length+[d.v].length) 16=true:=by unfold cB;simp only[fF,List.length_cons,List.length_nil,bf,decide_eq_true_eq];omega
 rcases hc with rfl| ⟨s,rfl,h4,h5⟩
 .refine⟨st,?_,.inr rfl⟩;have h:=aul (Y:=Y) (st:=st) (c2:=c2) ha (Bu [d]) (Bu l) hr;exact h.trans aD
 .refine⟨s,?_,.inl h5⟩;have h:=auk (Y:=Y) (st:=st) (c2:=c2) ha (Bu [d]) (Bu l) hr (by rw[fF];exact h4);exact h.trans aD
theorem am0 {root:List au->Option au}{split:Int->Option Int}:∀(g:Nat)(l:List au)(i:Int)(p:List au),yS root split g l i=some p->p.length<g:=by
 intro g;induction g with
 |zero=>intro l i p h;cases h|succ g ih=>
  intro l i p h;unfold yS at h;cases hb:Nat.beq l.length 1 with
  |true=>rw[hb,cond_true] at h;cases h;simp|false=>
   rw[hb,cond_false,iP] at h;obtain⟨k,_,h⟩:=h;cases hk:decide (0<=k/\k<=(l.length:Int)) with
   |false=>rw[hk] at h;cases h|true=>
    rw[hk,cond_true] at h;cases hi:decide (i<k) with
    |true=>rw[hi,cond_true,iP] at h;obtain⟨q,hq,h⟩:=h;rw[aZ] at h;obtain⟨d,_,rfl⟩:=h;have:=ih _ _ _ hq;simp;omega
    |false=>rw[hi,cond_false,iP] at h;obtain⟨q,hq,h⟩:=h;rw[aZ] at h;obtain⟨d,_,rfl⟩:=h;have:=ih _ _ _ hq;simp;omega
theorem am1 {all:List Oper}{fr:Fr}{d x ty:Nat}{pos:String}{cK:Array Edge}{c:Cap}{l:List au}(hx:fr.tm x= .ak c (l.map au.v)):
 Is (d9 E all fr ⟨some d,.call ⟨.value (.func 98), #[.tmp x], #[65]⟩,ty,pos,cK,none⟩ true) ⟨false,false,[.slot x],[.slot d]⟩:=by
 have hf:gB E fr ⟨some d,.call ⟨.value (.func 98), #[.tmp x], #[65]⟩,ty,pos,cK,none⟩=nu []:=by
  unfold gB;have h1:lT E fr ⟨some d,.call ⟨.value (.func 98), #[.tmp x], #[65]⟩,ty,pos,cK,none⟩ (.func 98)=false:=zF (g:=98) (a:=[]) (b:=[]) rfl (fun _ _=>rfl);have h2:fr.ev E (.func 98)= .fn (.func 98) [] []:=rfl;have h3:E.imp 98=false:=rfl;have h4:(([]++(#[Operand.tmp x].toList.map (fr.ev E))++[]).all fun v=>aQ (er v))=true:=by show (aQ (er (fr.tm x))&& true)=true;rw[hx,aAi];rfl
  simp only[h1,h2,h3,h4,if_true,if_false,dI]
 show (⟨(gB E fr _).qj,(gB E fr _).mh,_++(gB E fr _).t,_++(gB E fr _).w⟩:dR)=_;rw[hf];rfl
theorem aAj {root:List au->Option au}{split:Int->Option Int}(hroot:∀p x,root p=some x->Pure E 98 [lv au.v p] x.v)(hsplit:∀p x,split p=some x->Pure E 132 [.int .i64 p] (.int .i64 x)):
 ∀(g:Nat)(l:List au)(i:Int)(p:List au),yS root split g l i=some p->∀(dd:Nat)(Y:ah)(acc:List au)(s6 s7:Nat)(c0:Cap),1<dd->acc.length+g<2^30->rV Y s6 s7 acc->
  iW E 131 [.ak c0 (l.map au.v),.int .i64 i,.ref (1,7) s7 0,.ref (1,6) s6 0] dd Y (fun v Y'=>rV Y' s6 s7 (acc++p)/\Y.next<=Y'.next):=by
 intro g;induction g with
 |zero=>intro l i p h;cases h|succ g ih=>
  intro l i p h dd Y acc s6 s7 c0 aHo hlen hps;have hP:E.P=Tryz.prog:=rfl;have e1:gT Tryz.prog 189 [.fn (.func 131) [] [.ref (1,7) s7 0,.ref (1,6) s6 0]] 0=some (.fn (.func 131) [] [.ref (1,7) s7 0,.ref (1,6) s6 0]):=rfl;have e2:dO E.P 23=some 16:=av
  have e6:E.P.underlying 65=some (.slice 23):=av
  have aAk:=hps;obtain⟨⟨cp,hc6,hcp⟩,aHp⟩:=aAk;have hres:Tryz.f131.results.toList=[]:=rfl;refine iW.of (fn:=Tryz.f131) (c:=Tryz.f131.body.getD .skip) Tryz.func131 rfl av ?_;generalize hfr:({d:=dd,aj:=E.aj 131,tm:=fun j=>([.ak c0 (l.map au.v),.int .i64 i,.ref (1,7) s7 0,.ref (1,6) s6 0]:List V).getD j aP}:Fr)=fr;have a0:fr.tm 0= .ak c0 (l.map au.v):=iL
  have a1:fr.tm 1= .int .i64 i:=iL
  have a2:fr.tm 2= .ref (1,7) s7 0:=iL
  have a3:fr.tm 3= .ref (1,6) s6 0:=iL
  have hd:fr.d=dd:=Ay
  have bT:fr.aj=false:=iL
  clear hfr;have hmap:(l.map au.v).length=l.length:=fF ..;refine aF.seq (aF.seq (aF.region ?_));refine ay.a1 ?_;refine ay.a1 ?_;refine ay.a1 ?_;refine ay.nil (dw.n ?_);unfold yS at h;cases hb:Nat.beq l.length 1 with
  |true=>rw[hb,cond_true] at h;cases h;have hl:l.length=1:=zo hb;refine aF.uf jE (aF.ret ?_);rw[hres];exact⟨[],rfl,by rw[jG];exact rV.bump hps,mg _ _⟩|false=>
   have hl:l.length≠1:=fun e=>by rw[e] at hb;cases hb
   have hl':((l.length:Int)==1)=false:=dz
   rw[hb,cond_false,iP] at h;obtain⟨k,hk,h⟩:=h;cases hkk:decide (0<=k/\k<=(l.length:Int)) with
   |false=>rw[hkk] at h;cases h|true=>
   rw[hkk,cond_true] at h;obtain⟨k0,k1⟩:=of_decide_eq_true hkk;refine aF.vD jE (aF.skip (dw.n ?_));refine aF.seq (aF.region ?_);refine ay.a1 ?_;refine ay.a1 ?_;refine ay.RZ (hsplit _ _ hk) bD (by simp only[go_sem,Nat.reduceBEq,Nat.reduceAdd,hmap, *];exact Is.rfl) jE bD ?_;refine ay.a1 ?_;refine ay.nil (dw.n ?_);refine aF.seq (aF.region ?_);refine ay.a1 ?_;refine ay.a1 ?_;refine ay.a1 ?_;refine ay.nil (dw.n ?_);cases hik:decide (i<k) with
   |true=>
    rw[hik,cond_true,iP] at h;obtain⟨q,hq,h⟩:=h;rw[aZ] at h;obtain⟨dg,hdg,rfl⟩:=h;refine aF.uf jE ?_;refine aF.seq (aF.aiD (fun _=>?_) av);refine dL.o1 bD dY kY ?_;refine dL.o1 bD dY kY ?_;refine dL.o1 bD dY kY ?_;refine dL.o1 bD dY kY ?_;refine dL.o1 (v:=.ak .full ((l.take k.toNat).map au.v)) bD (by intro S;rw[List.map_take];exact ZV (c:=c0) iK iK iK e6 e2 (CJ (Bu l)) k0 QY) kY ?_;refine dL.o1 bD dY kY ?_;refine dL.AY (g:=131) (a:=[]) (b:=[.ref (1,7) s7 0,.ref (1,6) s6 0]) bD rfl rfl xW rfl ?_;simp only[E9,CB,hd];change iW E 131 [.ak .full ((l.take k.toNat).map au.v),.int .i64 i,.ref (1,7) s7 0,.ref (1,6) s6 0] (dd+1) _ _;obtain⟨n,v,aB,hn,OB,hnx⟩:=ih _ _ _ hq (dd+1) _ acc s6 s7 .full RS RS (rV.bump (rV.bump (rV.bump (rV.bump hps))));refine⟨n,v,aB,hn,?_⟩;refine dL.nil av (CF.i (dw.n ?_));obtain⟨⟨cq,aAl,hcq⟩,abS⟩:=OB;refine aF.aiI (fun tC OC=>?_) av;have hnk:7<tC:=(by rw[OC];decide);clear OC;refine dL.o1 bD dY kY ?_;refine dL.o1 bD dY kY ?_;refine dL.o1 bD dY kY ?_;refine dL.o1 (v:=.ak (Gm c0 k) ((l.drop k.toNat).map au.v)) bD (by intro S;rw[List.map_drop];exact amT (c:=c0) iK iK e6 e2 (CJ (Bu l)) k0 QY) kY ?_;refine dL.RZ (hroot _ _ hdg) bD (by simp only[go_sem,Nat.reduceBEq,Nat.reduceAdd, *];exact amW _ _ _) (by simp only[go_sem,Nat.reduceBEq,Nat.reduceAdd, *];exact amX _ _ _) bD (am1 (c:=Gm c0 k) (l:=l.drop k.toNat) iK) ?_;refine dL.o1 (v:=.ak .full [dg.v]) bD (by intro S;simp only[go_sem,Nat.reduceBEq,Nat.reduceAdd,amY, *];with_reducible exact Is.rfl) kY ?_;obtain⟨s',hs',hs2⟩:=amZ (Y:=aB.bump tC) (c2:=.full) (d:=dg) (l:=acc++q) (amU hcq tC) (by have:=am0 _ _ _ _ hq;rw[eU];omega) (aB.next+1+1+1+1+1+1);refine dL.o1 (v:=.ak (.own 16 s') ((acc++q++[dg]).map au.v)) (aB:=(aB.bump tC).eB s' ((acc++q).length+1)) bD (fun S=>?_) kY ?_
    .rw[XK (c:=cq) (l:=(acc++q).map au.v) iK iK];simp only[go_sem,Nat.reduceBEq,Nat.reduceAdd, *];exact Is.rfl
    refine dL.o0 bD QG kY ?_;refine dL.nil av (CF.i ?_);rw[hres];refine⟨[],rfl,?_⟩;show rV _ _ _ (acc++(q++[dg]))/\_;rw[<-fP];refine⟨⟨⟨_,sK _ _ _ _,.inr ⟨s',rfl,?_,?_⟩⟩,?_⟩,?_⟩
    .show upd aB.top s' _ s'=_;simp[upd];omega
    .show s'<aB.next+tC;rcases hs2 with h2|h2
     .exact h2
     .omega
    .rw[Fa _ _ _ _ aG];exact abS
    .show Y.next<=aB.next+tC;have:Y.next<=aB.next:=eX (eX (eX (eX (mg _ _) (mg _ _)) (mg _ _)) (mg _ _)) hnx;omega
   |false=>
    rw[hik,cond_false,iP] at h;obtain⟨q,hq,h⟩:=h;rw[aZ] at h;obtain⟨dg,hdg,rfl⟩:=h;refine aF.vD jE ?_;refine aF.seq (aF.aiD (fun _=>?_) av);refine dL.o1 bD dY kY ?_;refine dL.o1 bD dY kY ?_;refine dL.o1 bD dY kY ?_;refine dL.o1 (v:=.ak (Gm c0 k) ((l.drop k.toNat).map au.v)) bD (by intro S;rw[List.map_drop];exact amT (c:=c0) iK iK e6 e2 (CJ (Bu l)) k0 QY) kY ?_;refine dL.o1 bD dY kY ?_;refine dL.o1 bD dY kY ?_;refine dL.o1 bD dY kY ?_;refine dL.AY (g:=131) (a:=[]) (b:=[.ref (1,7) s7 0,.ref (1,6) s6 0]) bD rfl rfl xW rfl ?_;simp only[E9,CB,hd];change iW E 131 [.ak (Gm c0 k) ((l.drop k.toNat).map au.v),.int .i64 (IntKind.wrap .i64 (i-k)),.ref (1,7) s7 0,.ref (1,6) s6 0] (dd+1) _ _;obtain⟨n,v,aB,hn,OB,hnx⟩:=ih _ _ _ hq (dd+1) _ acc s6 s7 (Gm c0 k) RS RS (rV.bump (rV.bump (rV.bump (rV.bump hps))));refine⟨n,v,aB,hn,?_⟩;refine dL.nil av (CF.i (dw.n ?_));obtain⟨⟨cq,aAl,hcq⟩,abS⟩:=OB;refine aF.aiI (fun tC OC=>?_) av;have hnk:7<tC:=(by rw[OC];decide);clear OC;refine dL.o1 bD dY kY ?_;refine dL.o1 bD dY kY ?_;refine dL.o1 bD dY kY ?_;refine dL.o1 bD dY kY ?_;refine dL.o1 (v:=.ak .full ((l.take k.toNat).map au.v)) bD (by intro S;rw[List.map_take];exact ZV (c:=c0) iK iK iK e6 e2 (CJ (Bu l)) k0 QY) kY ?_;refine dL.RZ (hroot _ _ hdg) bD (by simp only[go_sem,Nat.reduceBEq,Nat.reduceAdd, *];exact amW _ _ _) (by simp only[go_sem,Nat.reduceBEq,Nat.reduceAdd, *];exact amX _ _ _) bD (am1 (c:=.full) (l:=l.take k.toNat) iK) ?_;refine dL.o1 (v:=.ak .full [dg.v]) bD (by intro S;simp only[go_sem,Nat.reduceBEq,Nat.reduceAdd,amY, *];with_reducible exact Is.rfl) kY ?_;obtain⟨s',hs',hs2⟩:=amZ (Y:=aB.bump tC) (c2:=.full) (d:=dg) (l:=acc++q) (amU hcq tC) (by have:=am0 _ _ _ _ hq;rw[eU];omega) (aB.next+1+1+1+1+1+1+1);refine dL.o1 (v:=.ak (.own 16 s') ((acc++q++[dg]).map au.v)) (aB:=(aB.bump tC).eB s' ((acc++q).length+1)) bD (fun S=>?_) kY ?_
    .rw[XK (c:=cq) (l:=(acc++q).map au.v) iK iK];simp only[go_sem,Nat.reduceBEq,Nat.reduceAdd, *];exact Is.rfl
    refine dL.o0 bD QG kY ?_;refine dL.nil av (CF.i ?_);rw[hres];refine⟨[],rfl,?_⟩;show rV _ _ _ (acc++(q++[dg]))/\_;rw[<-fP];refine⟨⟨⟨_,sK _ _ _ _,.inr ⟨s',rfl,?_,?_⟩⟩,?_⟩,?_⟩
    .show upd aB.top s' _ s'=_;simp[upd];omega
    .show s'<aB.next+tC;rcases hs2 with h2|h2
     .exact h2
     .omega
    .rw[Fa _ _ _ _ aG];exact abS
    .show Y.next<=aB.next+tC;have:Y.next<=aB.next:=eX (eX (eX (eX (mg _ _) (mg _ _)) (mg _ _)) (mg _ _)) hnx;omega
def OD (root:List au->Option au)(split:Int->Option Int)(l:List au)(i:Int):Option (List au×Int):=bif decide (i<0)||decide (i>=(l.length:Int)) then some ([],1) else bif decide (l.length<2^29) then (yS root split (l.length+1) l i).map fun p=>(p,0) else none
theorem abT (Y:ah)(c:Cap)(l:List au)(e:Int):bA 20 Y (.bW [.ak c (l.map au.v),.int .i64 e])=some (.bW [lv au.v l,.int .i64 e]):=by rw[R5 (n:=18)];have h1:bA 19 Y (.ak c (l.map au.v))=some (lv au.v l):=yD (n:=17) c l au.pc;have h2:bA 19 Y (.int .i64 e)=some (.int .i64 e):=oh rfl;rw[iM,h1,iM,h2];rfl
theorem aAm {root:List au->Option au}{split:Int->Option Int}(hroot:∀p x,root p=some x->Pure E 98 [lv au.v p] x.v)(hsplit:∀p x,split p=some x->Pure E 132 [.int .i64 p] (.int .i64 x)){l:List au}{i:Int}{r:List au×Int}(h:OD root split l i=some r):
 Pure E 87 [lv au.v l,.int .i64 i] (.bW [lv au.v r.1,.int .i64 r.2]):=by
 have hP:E.P=Tryz.prog:=rfl;have hres:Tryz.f87.results.toList=[.tmp 4,.tmp 5]:=rfl;refine Pure.of (fn:=Tryz.f87) (c:=Tryz.f87.body.getD .skip) rfl Tryz.func87 rfl av ?_;generalize hfr:({d:=1,aj:=E.aj 87,tm:=fun j=>([lv au.v l,.int .i64 i]:List V).getD j aP}:Fr)=fr;have a0:fr.tm 0=lv au.v l:=iL
 have a1:fr.tm 1= .int .i64 i:=iL
 have hd:fr.d=1:=Ay
 have bT:fr.aj=false:=iL
 clear hfr;have hmap:(l.map au.v).length=l.length:=fF ..;unfold OD at h;refine aF.seq (aF.region ?_);refine ay.a1 ?_;refine ay.a1 ?_;refine ay.nil (dw.n ?_);refine aF.seq (aF.seq (aF.region ?_));refine ay.a1 ?_;refine ay.a1 ?_;cases hi0:decide (i<0) with
 |true=>rw[hi0,Bool.true_or,cond_true] at h;cases h;refine ay.a1 ?_;refine ay.s1 dZ ?_;refine ay.s1 dZ ?_;refine ay.s1 dZ ?_;refine ay.s1 dZ ?_;refine ay.o1 bD zf ?_;refine ay.nil (dw.n ?_);refine aF.uf jE ?_;refine aF.seq (aF.region ?_);refine ay.a1 ?_;refine ay.a1 ?_;refine ay.nil (dw.n (aF.ret (dw.r ?_)));rw[hres];refine oI.bW tK (by simp only[iM,List.mapM_nil,jF,go_sem,Nat.reduceBEq, *];exact Is.rfl) ?_;exact abT _ .nil [] 1
 |false=>
  rw[hi0,Bool.false_or] at h;refine ay.a1 ?_;refine ay.o1 dZ dY ?_;refine ay.o1 dZ dY ?_;refine ay.o1 dZ (by intro S;simp only[go_sem,Nat.reduceBEq,Nat.reduceAdd,lv,hmap, *];with_reducible exact Is.rfl) ?_;refine ay.o1 dZ dY ?_;refine ay.o1 bD uP ?_;refine ay.nil (dw.n ?_);cases hi1:decide (i>=(l.length:Int)) with
  |true=>rw[hi1,cond_true] at h;cases h;refine aF.uf jE ?_;refine aF.seq (aF.region ?_);refine ay.a1 ?_;refine ay.a1 ?_;refine ay.nil (dw.n (aF.ret (dw.r ?_)));rw[hres];refine oI.bW tK (by simp only[iM,List.mapM_nil,jF,go_sem,Nat.reduceBEq, *];exact Is.rfl) ?_;exact abT _ .nil [] 1|false=>
   rw[hi1,cond_false] at h;cases hlt:decide (l.length<2^29) with
   |false=>rw[hlt] at h;cases h|true=>
   have hlt':=of_decide_eq_true hlt;rw[hlt,cond_true,aZ] at h;obtain⟨p,hp,rfl⟩:=h;refine aF.vD jE (aF.skip (dw.n ?_));have z1:je Tryz.prog 65=some (.ak .nil []):=av
   have z2:je Tryz.prog 189=some .gL:=av
   refine aF.seq (aF.region ?_);refine ay.a1 ?_;refine ay.nil (dw.n ?_);refine aF.seq (aF.region ?_);refine ay.o1 bD QG ?_;refine ay.nil (dw.n ?_);refine aF.seq (aF.region ?_);refine ay.o1 bD (by intro S;rw[alO (a:=[]) (b:=[.tmp 7,.tmp 6])];simp only[iH,List.map_nil,go_sem,Nat.reduceBEq,Nat.reduceAdd, *];exact Is.rfl) ?_;refine ay.o0 bD QG ?_;refine ay.nil (dw.n ?_);refine aF.seq (aF.region ?_);refine ay.o1 (v:=.fn (.func 131) [] [.ref (1,7) _ 0,.ref (1,6) _ 0]) bD (by intro S;simp only[go_sem,Nat.reduceBEq,Nat.reduceAdd, *];exact Is.rfl) ?_;refine ay.a1 ?_;refine ay.a1 ?_;refine ay.AY (g:=131) (a:=[]) (b:=[.ref (1,7) _ 0,.ref (1,6) _ 0]) bD rfl rfl (by simp only[go_sem,Nat.reduceBEq,Nat.reduceAdd, *];rfl) rfl ?_;simp only[E9,CB,hd];refine imp_mono (aAj hroot hsplit _ _ _ _ hp 2 _ [] _ _ .sh aG dz ⟨⟨.nil, ?c6,.inl rfl⟩, ?c7⟩) (fun v aB OB=>?_);case c6=>rw[MS,Fa _ _ _ _ aG,MS,Fa _ _ _ _ aG,MS];exact sK _ _ _ _
   case c7=>rw[MS];exact sK _ _ _ _
   obtain⟨hps,hnx⟩:=OB;refine ay.nil (dw.n ?_);obtain⟨⟨c,hc6,_⟩,_⟩:=hps;refine aF.seq (aF.region ?_);refine ay.a1 ?_;refine ay.a1 ?_;refine ay.a1 ?_;refine ay.nil (dw.n (aF.ret ?_));rw[hres];refine oI.bW tK (by simp only[iM,List.mapM_nil,jF,go_sem,Nat.reduceBEq, *];exact Is.rfl) ?_;exact abT _ c ([]++p) 0
end Sh
end
section
open Go Go.Proofs aR
namespace Sh
set_option maxRecDepth 100000
theorem aAn (JU:∀a b x,JG (a,b)=some x->Pure E 141 [a.v,b.v] x.v)(hsplit:∀p x,F6 p=some x->Pure E 132 [.int .i64 p] (.int .i64 x)){leaf root:au}{i n:Int}{l:List au}{b:Bool}(h:zW leaf i n l root=some b):Pure E 100 (zX leaf i n l root) (.bool b):=by
 have h':=h;unfold zW at h';split at h'
 .rename_i hl;obtain⟨m,v,Y',e1,rfl⟩:=axZ JU hsplit hl h';have h1:rJ E 100 (zX leaf i n l root) (.bool b):=ax0 (axG (m:=m) alj) e1 rfl;refine⟨0,?_⟩;show JH Eg (zX leaf i n l root)=some (.bool b);exact aw1 Eg h (alb rfl (fun _ _ h=>h) h1)
 .cases h'
theorem aAo (p:aT R.T [.d (.st 0),.d (.int .i64),.d (.int .i64),.d (.slice (.st 0)),.d (.st 0)])(x:aT R.T [.d .bool])(h:zW p.1 p.2.1 p.2.2.1 p.2.2.2.1 p.2.2.2.2=some x):Pure E 100 (bM R [.d (.st 0),.d (.int .i64),.d (.int .i64),.d (.slice (.st 0)),.d (.st 0)] p) (jy (bM R [.d .bool] x)):=by obtain⟨leaf,i,n,l,root⟩:=p;exact aAn azR azS h
end Sh
end
