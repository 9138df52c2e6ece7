import Derived.Test.YteniejlbjfigdaaGreatDoorF520
import Derived.Test.YteniejlbjfigdaaGreatDoorF522
set_option linter.all false
section
open Go Go.Proofs aR
namespace Sh
set_option maxRecDepth 100000
set_option maxHeartbeats 1000000
section
variable {E:Env}{S:iN}{fr:Fr}{Z:ah}{st ty:Nat}{pos:String}{bV:Array Edge}{gd:Option (Nat×Bool)}
theorem avq {d:Option Nat}(x:Operand):opC E S fr Z st ⟨d,.nilCheck x,ty,pos,bV,gd⟩=(match fr.ev E x with
 |.ref loc s off=>some (.ref loc s off,fr,Z)|.aX cs off=>some (.aX cs off,fr,Z)|.fn (.func f) a b=>some (.fn (.func f) a b,fr,Z)|_=>none):=by
 simp only[opC,dh];cases fr.ev E x with
 |fn f a b=>cases f<;>rfl|_=>rfl
attribute [go_sem] avq
theorem Z0 {d:Option Nat}{x h m:Operand}{t e:TypeId}{sz:Nat}{c:Cap}{l:List V}{k:Int}(hx:fr.ev E x= .ak c l)(hh:fr.ev E h= .int .i64 k)(hm:fr.ev E m= .int .i64 k)(hu:E.P.underlying t=some (.slice e))(hs:dF E.P e=some sz)(hz:og sz l=true)(h0:0<=k)(h1:k<=(l.length:Nat)):
 opC E S fr Z st ⟨d,.slice t x none (some h) (some m),ty,pos,bV,gd⟩=some (.ak .full (l.take k.toNat),fr,Z):=by
 show Option.map _ ((kQ E.P Z t (fr.ev E x) none (some (fr.ev E h)) (some (fr.ev E m))).map fun v=>(v,Z))=_;rw[hx,hh,hm];unfold kQ;rw[hu];dsimp only;rw[hs,Option.bind_some];have:jq l.length l.length none (some (.int .i64 k)) (some (.int .i64 k))=some (0,k.toNat,k.toNat):=by unfold jq bnd pG;simp only[Option.bind_some];rw[if_pos ⟨h0,h1⟩,Option.bind_some];rw[if_pos ⟨h0,RS⟩,Option.bind_some]
 rw[this,Option.bind_some,if_pos hz,if_neg aB];simp
end
structure Z4 (Z:ah)(d s:Nat)(c:Cap)(l:List aC)(sh:Bool)(v:V)(Z1:ah):Prop where
 v:v=(qQ l).v
 nx:Z1.next=Z.next+(if l=[] then 15 else 34)
 top:Z1.top=Z.top
 lp:Z1.loops=Z.loops
 ob:Z1.obj (1,30)=some (s,.cells [.ak (if l=[] then c else .full) (l.dropLast.map aC.v),.bool (sh||l.isEmpty)])
 o2:Z1.obj (d,2)=some (Z.next,.cells (qQ l).c)
 o4:Z1.obj (d,4)=if l=[] then Z.obj (d,4) else some (Z.next+17,.cells (qQ l).c)
 ot:∀p,p≠(1,30)->p≠(d,2)->p≠(d,4)->Z1.obj p=Z.obj p
theorem Bd (l:List aC):wN 16 (l.map aC.v)=true:=ap6 (f:=aC.v) (sz:=16) (fun x=>⟨by rw[aC.cells];exact aC.len x,by rw[aC.cells];exact aC.one x⟩) l
theorem avr {d s:Nat}{c:Cap}{l:List aC}{sh:Bool}{Z:ah}(hd:1<d)(hl:l.length<2^62)(h:Z.dK (1,30) s=some [.ak c (l.map aC.v),.bool sh]):
 jd E 126 [.ref (1,30) s 0] d Z (Z4 Z d s c l sh):=by
 have hP:E.P=Tryz.prog:=rfl;have hmap:(l.map aC.v).length=l.length:=eU ..;have e2:dF E.P 44=some 16:=ay
 have e6:E.P.underlying 70=some (.slice 44):=ay
 refine jd.of (fn:=Tryz.f126) (c:=Tryz.f126.body.getD .skip) Tryz.func126 rfl ay ?_;generalize hfr:({d:=d,aj:=E.aj 126,tm:=fun j=>([.ref (1,30) s 0]:List V).getD j aJ}:Fr)=fr;have a0:fr.tm 0= .ref (1,30) s 0:=iU
 have hd':fr.d=d:=BD
 have bO:fr.aj=false:=iU
 clear hfr;have z1:iM Tryz.prog 44=some AZ.v:=ay
 have l0:∀c L sh,gV Tryz.prog 70 [V.ak c L,.bool sh] 0=some (.ak c L):=fun _ _ _=>ay
 have l1:∀c L sh,gV Tryz.prog 4 [V.ak c L,.bool sh] 1=some (.bool sh):=fun _ _ _=>ay
 have b0:Q5 E 44 []=some AZ.c:=ay
 have avs:∀x:aC,gI AZ.c 0 x.c=x.c:=fun _=>ay
 have sp1:∀(c c2:Cap)(L L2:List V)(sh:Bool),gI [V.ak c L,V.bool sh] 0 [V.ak c2 L2]=[V.ak c2 L2,V.bool sh]:=fun _ _ _ _ _=>rfl;have sp2:∀(c:Cap)(L:List V)(sh b:Bool),gI [V.ak c L,V.bool sh] 1 [V.bool b]=[V.ak c L,V.bool b]:=fun _ _ _ _=>rfl;have hres:Tryz.f126.results.toList=[.cell 2 44]:=rfl;refine aD.seq (aD.region ?_);refine av.a1 ?_;refine av.nil (dG.n ?_);refine aD.seq (aD.region ?_);refine av.a1 ?_;refine av.a1 ?_;refine av.a1 ?_;refine av.a1 ?_;refine av.a1 ?_;refine av.a1 ?_;refine av.nil (dG.n ?_);refine aD.seq (aD.seq (aD.region ?_));refine av.a1 ?_;refine av.a1 ?_;refine av.nil (dG.n ?_);cases l with
 |nil=>
  refine aD.vB (by exact Is.rfl) ?_;refine aD.seq (aD.region ?_);refine av.a1 ?_;refine av.a1 ?_;refine av.a1 ?_;refine av.o0 bC o9 ?_;refine av.nil (dG.n ?_);refine aD.seq (aD.region ?_);refine av.a1 ?_;refine av.o0 bC o9 ?_;refine av.nil (dG.n (aD.ret (dG.r ?_)));rw[hres];refine pJ.one wm Ab ?_;have hne:((d,2):aR.Loc)≠(1,30):=F9
  have TG:((d,4):aR.Loc)≠(1,30):=F9
  have hne2:((d,4):aR.Loc)≠(d,2):=F9
  exact {v:=rfl,nx:=by rw[if_pos rfl];rfl,top:=rfl,lp:=rfl,ob:=by simp[ah.setObj,ah.bump,upd,hne.symm,gI,V.cells],o2:=by simp[ah.setObj,ah.bump,upd,gI,qQ],o4:=by simp[ah.setObj,ah.bump,upd,TG,hne2],ot:=fun p h1 h2 h4=>by simp[ah.setObj,ah.bump,upd,h1,h2]}
 |cons y l=>
  have hw:IntKind.wrap .i64 ((((y::l).length:Nat):Int)-1)=(l.length:Int):=by rw[Yu aB (by simp at hl⊢;omega)];simp
  have hg:(y::l)[l.length]? =some (qQ (y::l)):=by
   unfold qQ;rw[List.getLast?_eq_getElem?,List.length_cons,Nat.add_sub_cancel];cases hq:(y::l)[l.length]? with
   |none=>exact absurd (List.getElem?_eq_none_iff.1 hq) aB|some x=>rfl
  have hia:p9 Tryz.prog 70 (.ak c (y.v::l.map aC.v)) (.int .i64 (l.length:Int))=some (.aX (qQ (y::l)).c 0):=by
   show p9 Tryz.prog 70 (.ak c ((y::l).map aC.v)) _=_;rw[Wo,if_pos bC];have e1:lG Tryz.prog 70=some 44:=ay
   have e2':dF Tryz.prog 44=some 16:=ay
   have e3:aK (y::l) (l.length:Int)=some (qQ (y::l)):=by unfold aK;rw[if_pos ⟨RS,by rw[List.length_cons];omega⟩,Int.toNat_natCast];exact hg
   rw[e1];simp only[Option.bind_some,e2',e3];rfl
  have htk:(y.v::l.map aC.v).take (l.length:Int).toNat=(y::l).dropLast.map aC.v:=by show ((y::l).map aC.v).take l.length=_;rw[<-List.map_take,List.dropLast_eq_take,List.length_cons,Nat.add_sub_cancel]
  have hi0:(((((y::l).map aC.v).length:Nat):Int)==0)=false:=dP
  refine aD.xZ jU (aD.skip (dG.n ?_));refine aD.seq (aD.region ?_);refine av.a1 ?_;refine av.a1 ?_;refine av.a1 ?_;refine av.a1 ?_;refine av.a1 ?_;refine av.a1 ?_;refine av.a1 ?_;refine av.a1 ?_;refine av.a1 ?_;refine av.o0 bC o9 ?_;refine av.nil (dG.n ?_);refine aD.seq (aD.region ?_);refine av.a1 ?_;refine av.a1 ?_;refine av.a1 ?_;refine av.a1 ?_;refine av.a1 ?_;refine av.a1 ?_;refine av.a1 ?_;refine av.a1 ?_;refine av.a1 ?_;refine av.o1 (v:=.ak .full ((y::l).dropLast.map aC.v)) bC (by intro S;rw[Z0 (c:=c) (l:=y.v::l.map aC.v) (k:=(l.length:Int)) jG jG jG e6 e2 (Cj (Bd (y::l))) RS (by simp only[List.length_cons,eU];omega),htk];exact Is.rfl) ?_;refine av.a1 ?_;refine av.a1 ?_;refine av.o0 bC o9 ?_;refine av.nil (dG.n ?_);refine aD.seq (aD.region ?_);refine av.a1 ?_;refine av.o0 bC o9 ?_;refine av.nil (dG.n (aD.ret ?_));rw[hres];refine pJ.one wm Ab ?_;have hne:((d,2):aR.Loc)≠(1,30):=F9
  have TG:((d,4):aR.Loc)≠(1,30):=F9
  have hne2:((d,4):aR.Loc)≠(d,2):=F9
  exact {v:=rfl,nx:=by rw[if_neg aB];rfl,top:=rfl,lp:=rfl,ob:=by simp[ah.setObj,ah.bump,upd,hne.symm,TG.symm],o2:=by simp[ah.setObj,ah.bump,upd],o4:=by simp[ah.setObj,ah.bump,upd,TG,hne2],ot:=fun p h1 h2 h4=>by simp[ah.setObj,ah.bump,upd,h1,h2,h4]}
theorem ajJ {d s:Nat}{c:Cap}{l:List aC}{sh:Bool}{Z:ah}(hd:1<d)(hl:l.length<2^62)(h:Z.dK (1,30) s=some [.ak c (l.map aC.v),.bool sh]):
 ∃Z1,(bH E 2).call 126 [.ref (1,30) s 0] d Z=some ((qQ l).v,Z1)/\Z4 Z d s c l sh (qQ l).v Z1:=by
 obtain⟨n,v,Z1,h1,h2⟩:=avr hd hl h;have:=h2.v;subst this;exact⟨Z1,avo (fn:=Tryz.f126) (c:=Tryz.f126.body.getD .skip) Tryz.func126 rfl ay h1,h2⟩
section
variable {fr:Fr}{Z:ah}
theorem xF {all:List Oper}{base i:Nat}{o:Oper}{os:List Oper}{v:V}{Z1:ah}{fs:List FF}{Q:Fr->ah->Prop}(F:dJ)(ho:all[i]? =some o)(hw:fD all fr o=some true)(hF:dW E all fr o true=F)(hop:∀S,Is (opC E S fr Z (base+i) o) (some (v,fr,Z1)))(h:iT E all base (i+1) os (fr.put o.dst v) Z1 (fs++[⟨F,[]⟩]) Q):iT E all base i (o::os) fr Z fs Q:=iT.op ho hw (fun S=>hop S) (by rw[hF];exact h)
theorem Bf {all:List Oper}{d x ty:Nat}{pos:String}{bV:Array Edge}:dW E all fr ⟨some d,.move (.tmp x),ty,pos,bV,none⟩ true=⟨false,false,[.slot x],[.slot d]⟩:=rfl
theorem avt {all:List Oper}{d x ty:Nat}{pos:String}{bV:Array Edge}:dW E all fr ⟨some d,.assign (.tmp x),ty,pos,bV,none⟩ true=⟨false,false,[.slot x],[.slot d]⟩:=rfl
theorem avu {all:List Oper}{d t ty:Nat}{pos:String}{bV:Array Edge}:dW E all fr ⟨some d,.alloc t,ty,pos,bV,none⟩ true=⟨false,false,[],[.slot d,.obj (fr.d,d)]⟩:=rfl
theorem FJ {all:List Oper}{d t x ty s off:Nat}{pos:String}{bV:Array Edge}{loc:aR.Loc}(hx:fr.tm x= .ref loc s off):dW E all fr ⟨some d,.load t (.tmp x),ty,pos,bV,none⟩ true=⟨false,false,[.slot x,.obj loc],[.slot d]⟩:=by show (⟨false,false,[Key.slot x]++[]++jN (fr.tm x),[Key.slot d]++[]⟩:dJ)=_;rw[hx];rfl
theorem TH {all:List Oper}{t x y ty s off:Nat}{pos:String}{bV:Array Edge}{loc:aR.Loc}(hx:fr.tm x= .ref loc s off):dW E all fr ⟨none,.store t (.tmp x) (.tmp y),ty,pos,bV,none⟩ true=⟨false,false,[.slot x,.slot y],[.obj loc]⟩:=by show (⟨false,false,[Key.slot x,Key.slot y]++[]++[],[]++jN (fr.tm x)⟩:dJ)=_;rw[hx];rfl
theorem Z5 {all:List Oper}{base i:Nat}{d:Option Tmp}{f:Operand}{args:Array Operand}{tys:Array TypeId}{ty:TypeId}{pos:String}{bV:Array Edge}{os:List Oper}{fs:List FF}{Q:Fr->ah->Prop}{g:FuncId}{a b az:List V}{v:V}(F:dJ)(hp:Pure E g az v)(hi:all[i]? =some ⟨d,.call ⟨.value f,args,tys⟩,ty,pos,bV,none⟩)(hf:Is (fr.ev E f) (.fn (.func g) a b))(has:Is ((a++args.toList.map (fr.ev E)++b).mapM (bg 20 Z)) (some az))(hc:Is ((a++args.toList.map (fr.ev E)++b).all (fun x=>aQ (er x))||flat v) true)(hF:dW E all fr ⟨d,.call ⟨.value f,args,tys⟩,ty,pos,bV,none⟩ true=F)(h:iT E all base (i+1) os (fr.put d v) Z (fs++[⟨F,[]⟩]) Q)(hg:E.imp g=false:=by rfl)(eP:∀d',d=some d'->E.own g d'=false:=by intros;rfl):
 iT E all base i (⟨d,.call ⟨.value f,args,tys⟩,ty,pos,bV,none⟩::os) fr Z fs Q:=iT.call hi rfl rfl rfl hf hg has hp hc (by rw[hF];exact h) eP
theorem avv {all:List Oper}{d g x t ty:Nat}{pos:String}{bV:Array Edge}(hi:E.imp g=false)(ho:∀d',some d=some d'->E.own g d'=false)(hx:aQ (er (fr.tm x))=true):dW E all fr ⟨some d,.call ⟨.value (.func g), #[.tmp x], #[t]⟩,ty,pos,bV,none⟩ true=⟨false,false,[.slot x],[.slot d]⟩:=by
 have hf:fT E fr ⟨some d,.call ⟨.value (.func g), #[.tmp x], #[t]⟩,ty,pos,bV,none⟩=mE []:=by
  unfold fT;have h1:kX E fr ⟨some d,.call ⟨.value (.func g), #[.tmp x], #[t]⟩,ty,pos,bV,none⟩ (.func g)=false:=zh (g:=g) (a:=[]) (b:=[]) rfl ho;have h2:fr.ev E (.func g)= .fn (.func g) [] []:=rfl;have h4:(([]++(#[Operand.tmp x].toList.map (fr.ev E))++[]).all fun v=>aQ (er v))=true:=by show (aQ (er (fr.tm x))&& true)=true;rw[hx];rfl
  simp only[h1,h2,hi,h4,if_true,if_false,bZ]
 show (⟨(fT E fr _).qb,(fT E fr _).lH,_++(fT E fr _).t,_++(fT E fr _).w⟩:dJ)=_;rw[hf];rfl
theorem ajK {all:List Oper}{d g x y t u ty:Nat}{pos:String}{bV:Array Edge}(hi:E.imp g=false)(ho:∀d',some d=some d'->E.own g d'=false)(hx:aQ (er (fr.tm x))=true)(hy:aQ (er (fr.tm y))=true):dW E all fr ⟨some d,.call ⟨.value (.func g), #[.tmp x,.tmp y], #[t,u]⟩,ty,pos,bV,none⟩ true=⟨false,false,[.slot x,.slot y],[.slot d]⟩:=by
 have hf:fT E fr ⟨some d,.call ⟨.value (.func g), #[.tmp x,.tmp y], #[t,u]⟩,ty,pos,bV,none⟩=mE []:=by
  unfold fT;have h1:kX E fr ⟨some d,.call ⟨.value (.func g), #[.tmp x,.tmp y], #[t,u]⟩,ty,pos,bV,none⟩ (.func g)=false:=zh (g:=g) (a:=[]) (b:=[]) rfl ho;have h2:fr.ev E (.func g)= .fn (.func g) [] []:=rfl;have h4:(([]++(#[Operand.tmp x,Operand.tmp y].toList.map (fr.ev E))++[]).all fun v=>aQ (er v))=true:=by show (aQ (er (fr.tm x))&& (aQ (er (fr.tm y))&& true))=true;rw[hx,hy];rfl
  simp only[h1,h2,hi,h4,if_true,if_false,bZ]
 show (⟨(fT E fr _).qb,(fT E fr _).lH,_++(fT E fr _).t,_++(fT E fr _).w⟩:dJ)=_;rw[hf];rfl
theorem Z6 {all:List Oper}{base i:Nat}{o:Oper}{os:List Oper}{fs:List FF}{Q:Fr->ah->Prop}{c:Call}{f:Operand}{g:FuncId}{a b:List V}(F:dJ)(ex:List aR.Key)(hi:all[i]? =some o)(hw:fD all fr o=some true)(ho:o.op= .call c)(fO:c.callee= .value f)(hf:fr.ev E f= .fn (.func g) a b)(hg:E.imp g=true)(hF:dW E all fr o true=F)(hft:F.lH=true)(hp:jd E g (a++c.args.toList.map (fr.ev E)++b) (fr.d+1) Z (fun v Z1=>(∀k∈ex,dZ k (fr,Z) (fr.put o.dst v,Z1))/\iT E all base (i+1) os (fr.put o.dst v) Z1 (fs++[⟨F,ex⟩]) Q))(eP:∀d,o.dst=some d->E.own g d=false:=by intros;rfl):iT E all base i (o::os) fr Z fs Q:=
 iT.Aq ex hi hw ho fO hf hg (by rw[hF];exact hft) (by rw[hF];exact hp) eP
theorem imp_mono {E:Env}{f:FuncId}{args:List V}{d:Nat}{Z:ah}{Q Q':V->ah->Prop}(h:jd E f args d Z Q)(hq:∀v Z',Q v Z'->Q' v Z'):jd E f args d Z Q':=
 let ⟨n,v,Z',h1,h2⟩:=h;⟨n,v,Z',h1,hq v Z' h2⟩
theorem avw {all:List Oper}{base i d x s ty:Nat}{c:Cap}{l:List aC}{sh:Bool}{pos:String}{bV:Array Edge}{os:List Oper}{fs:List FF}{Q:Fr->ah->Prop}(hd:1<fr.d+1)(hl:l.length<2^62)(hi:all[i]? =some ⟨some d,.call ⟨.value (.func 126), #[.tmp x], #[179]⟩,ty,pos,bV,none⟩)(hx:fr.tm x= .ref (1,30) s 0)(NC:Z.dK (1,30) s=some [.ak c (l.map aC.v),.bool sh])(h:∀Z1,Z4 Z (fr.d+1) s c l sh (qQ l).v Z1->iT E all base (i+1) os (fr.put (some d) (qQ l).v) Z1 (fs++[⟨⟨false,false,[.slot x],[.slot d,.obj (1,30),.obj (fr.d+1,2),.obj (fr.d+1,4),.nx]⟩,[]⟩]) Q):
 iT E all base i (⟨some d,.call ⟨.value (.func 126), #[.tmp x], #[179]⟩,ty,pos,bV,none⟩::os) fr Z fs Q:=by
 obtain⟨Z1,e1,q1⟩:=ajJ hd hl NC;have hargs:([]:List V)++(#[Operand.tmp x]:Array Operand).toList.map (fr.ev E)++[]=[.ref (1,30) s 0]:=by show [fr.tm x]=_;rw[hx]
 refine iT.avg (g:=126) (a:=[]) (b:=[]) (v:=(qQ l).v) (Z1:=Z1) ⟨false,false,[.slot x],[.slot d,.obj (1,30),.obj (fr.d+1,2),.obj (fr.d+1,4),.nx]⟩ hi rfl rfl rfl rfl rfl 2 rfl rfl ?_ ?_ ?_ ?_ ?_ ?_ (h Z1 q1)
 .intro k hk;have hk:k∈[Key.slot x]:=hk;exact hk
 .intro k hk;have hk:k∈[Key.slot d]:=hk;rw[iZ.1 hk];exact ji ..
 .intro t ht;simp only[iC,Key.slot.injEq,reduceCtorEq,List.not_mem_nil,or_false] at ht;rw[ht]
 .intro hk;simp at hk
 .intro Z' hag;have ajL:Z.obj (1,30)=Z'.obj (1,30):=hag (.obj (1,30)) (.inr aB) rfl;have g4:Z.obj (fr.d+1,4)=Z'.obj (fr.d+1,4):=hag (.obj (fr.d+1,4)) (.inr aB) rfl;obtain⟨gn,avx⟩:Z.next=Z'.next/\Z.loops=Z'.loops:=hag .nx (.inr aB) rfl;obtain⟨Z2,e2,q2⟩:=ajJ hd hl ((uG (Z:=Z) (Z':=Z') ajL.symm).trans NC);refine⟨Z2,by rw[hargs];exact e2,fun k hk hs=>?_,fun k hk hs=>?_⟩
  .simp only[iC,List.not_mem_nil,or_false] at hk;rcases hk with rfl|rfl|rfl|rfl|rfl
   .cases hs
   .show Z1.obj _=Z2.obj _;rw[q1.ob,q2.ob]
   .show Z1.obj _=Z2.obj _;rw[q1.o2,q2.o2,gn]
   .show Z1.obj _=Z2.obj _;rw[q1.o4,q2.o4,gn,g4]
   .exact⟨by rw[q1.nx,q2.nx,gn],by rw[q1.lp,q2.lp,avx]⟩
  .simp only[iC,List.not_mem_nil,or_false,not_or] at hk;obtain⟨-,k1,k2,k3,k4⟩:=hk;cases k with
   |slot t=>cases hs|rest=>cases hs|obj p=>exact(q2.ot p (fun e=>k1 (by rw[e])) (fun e=>k2 (by rw[e])) (fun e=>k3 (by rw[e]))).symm
   |top=>exact q2.top.symm|nx=>exact absurd rfl k4
 .rw[hargs];exact e1
end
structure JJ (Z:ah)(s5 s11 s12 pV:Nat)(leaf:aC)(c:Cap)(l:List aC)(sh:Bool):Prop where
 c5:Z.dK (1,5) s5=some leaf.c
 c11:Z.dK (1,11) s11=some [.ref (1,30) pV 0]
 c12:Z.dK (1,12) s12=some [.fn (.func 125) [] [.ref (1,5) s5 0,.ref (1,11) s11 0,.ref (1,12) s12 0]]
 TI:Z.dK (1,30) pV=some [.ak c (l.map aC.v),.bool sh]
theorem JJ.mono {Z Z':ah}{s5 s11 s12 pV:Nat}{leaf:aC}{c:Cap}{l:List aC}{sh:Bool}(h:JJ Z s5 s11 s12 pV leaf c l sh)(hs:∀o,Z'.obj (1,o)=Z.obj (1,o)):JJ Z' s5 s11 s12 pV leaf c l sh:=
 ⟨(uG (hs _)).trans h.c5,(uG (hs _)).trans h.c11,(uG (hs _)).trans h.c12,(uG (hs _)).trans h.TI⟩
theorem rE {a b o o':Nat}(h:a≠b):((a,o):aR.Loc)≠(b,o'):=fun e=>h (congrArg Prod.fst e)
theorem avy {node:aC×aC->Option aC}{split:Int->Option Int}(JK:∀a b x,node (a,b)=some x->Pure E 113 [a.v,b.v] x.v)(hsplit:∀p x,split p=some x->Pure E 110 [.int .i64 p] (.int .i64 x)){leaf:aC}{s5 s11 s12 pV:Nat}:
 ∀(g:Nat)(i n:Int)(l:List aC)(sh:Bool)(r:aC×(List aC×Bool)),C9 node split leaf g i n l sh=some r->l.length<2^62->∀(dd:Nat)(Z:ah)(c:Cap),1<dd->JJ Z s5 s11 s12 pV leaf c l sh->
  jd E 125 [.int .i64 i,.int .i64 n,.ref (1,5) s5 0,.ref (1,11) s11 0,.ref (1,12) s12 0] dd Z (fun v Z'=>v=r.1.v/\(∃c',JJ Z' s5 s11 s12 pV leaf c' r.2.1 r.2.2)/\∀a o,a<dd->(a,o)≠((1,30):aR.Loc)->Z'.obj (a,o)=Z.obj (a,o)):=by
 intro g;induction g with
 |zero=>intro i n l sh r h;cases h|succ g ih=>
  intro i n l sh r h hl dd Z c hdd hcs;have hP:E.P=Tryz.prog:=rfl;obtain⟨c5,c11,c12,TI⟩:=hcs;have hres:Tryz.f125.results.toList=[.cell 7 44]:=rfl;have z1:iM Tryz.prog 44=some AZ.v:=ay
  have avs:∀x:aC,gI AZ.c 0 x.c=x.c:=fun _=>ay
  have f1:∀a b:V,gV Tryz.prog 184 [.fn (.func 125) [] [a,b,.ref (1,12) s12 0]] 0=some (.fn (.func 125) [] [a,b,.ref (1,12) s12 0]):=fun _ _=>rfl;have p1:gV Tryz.prog 179 [.ref (1,30) pV 0] 0=some (.ref (1,30) pV 0):=rfl;refine jd.of (fn:=Tryz.f125) (c:=Tryz.f125.body.getD .skip) Tryz.func125 rfl ay ?_;generalize hfr:({d:=dd,aj:=E.aj 125,tm:=fun j=>([.int .i64 i,.int .i64 n,.ref (1,5) s5 0,.ref (1,11) s11 0,.ref (1,12) s12 0]:List V).getD j aJ}:Fr)=fr;have a0:fr.tm 0= .int .i64 i:=iU
  have a1:fr.tm 1= .int .i64 n:=iU
  have a2:fr.tm 2= .ref (1,5) s5 0:=iU
  have a3:fr.tm 3= .ref (1,11) s11 0:=iU
  have a4:fr.tm 4= .ref (1,12) s12 0:=iU
  have hd:fr.d=dd:=BD
  have bO:fr.aj=false:=iU
  clear hfr;have n1:∀o o':Nat,((1,o):aR.Loc)≠(dd,o'):=fun o o'=>rE RS;have q7:ru (1,5) (dd,7)=false:=rfl;refine aD.seq (aD.region ?_);refine av.a1 ?_;refine av.nil (dG.n ?_);refine aD.seq (aD.seq (aD.region ?_));refine av.a1 ?_;refine av.a1 ?_;refine av.nil (dG.n ?_);unfold C9 at h;cases hb:n==1 with
  |true=>
   rw[hb,cond_true] at h;cases h;refine aD.vB jU ?_;refine aD.seq (aD.region ?_);refine av.a1 ?_;refine av.o0 bC o9 ?_;refine av.nil (dG.n (aD.ret (dG.r ?_)));rw[hres];refine pJ.one wm Ab ?_;refine⟨rfl,⟨c,JJ.mono ⟨c5,c11,c12,TI⟩ fun o=>?_⟩,fun a o h1 h2=>?_⟩
   .simp[ah.setObj,ah.bump,upd,n1]
   .have:((a,o):aR.Loc)≠(dd,7):=rE RS;simp[ah.setObj,ah.bump,upd,this]
  |false=>
   rw[hb,cond_false,iR] at h;obtain⟨k,hk,h⟩:=h;refine aD.xZ jU (aD.skip (dG.n ?_));refine aD.seq (aD.TB ay ?_);refine xF _ rfl rfl Bf dS ?_;refine Z5 _ (hsplit _ _ hk) rfl bC jU jU (avv rfl (by intros;rfl) bC) ?_;refine xF _ rfl rfl (FJ (s:=s11) (off:=0) (loc:=(1,11)) a3) dS ?_;refine avw (l:=l) (sh:=sh) (c:=c) (s:=pV) (by show 1<fr.d+1;omega) hl rfl bC xE fun Z1 q1=>?_;refine xF _ rfl rfl avu dS ?_;refine xF _ rfl rfl avt dS ?_;refine xF _ rfl rfl (TH (off:=0) (loc:=(dd,9)) bC) o9 ?_;refine iT.nil ay (dG.n ?_);have m7:((dd,7):aR.Loc)≠(1,30):=rE RS;have ajM:∀o,((dd,7):aR.Loc)≠(fr.d+1,o):=fun o=>rE RS;have m1:∀o o',((1,o):aR.Loc)≠(fr.d+1,o'):=fun o o'=>rE RS;have g7:=(uG (s:=Z.next) (q1.ot (dd,7) m7 (ajM 2) (ajM 4))).trans (show _=some AZ.c by simp only[go_sem,Nat.reduceBEq, *]);have g5:=(uG (s:=s5) (q1.ot (1,5) aL (m1 5 2) (m1 5 4))).trans (show _=some leaf.c by simp only[go_sem,Nat.reduceBEq, *]);have g11:=(uG (s:=s11) (q1.ot (1,11) aL (m1 11 2) (m1 11 4))).trans (show _=some [.ref (1,30) pV 0] by simp only[go_sem,Nat.reduceBEq, *]);have g12:=(uG (s:=s12) (q1.ot (1,12) aL (m1 12 2) (m1 12 4))).trans (show _=some [.fn (.func 125) [] [.ref (1,5) s5 0,.ref (1,11) s11 0,.ref (1,12) s12 0]] by simp only[go_sem,Nat.reduceBEq, *]);have ajL:Z1.dK (1,30) pV=some [.ak (if l=[] then c else .full) (l.dropLast.map aC.v),.bool (sh||l.isEmpty)]:=by unfold ah.dK;rw[q1.ob];simp
   have ajN:∀a o,a<dd->(a,o)≠((1,30):aR.Loc)->Z1.obj (a,o)=Z.obj (a,o):=fun a o h1 h2=>by rw[q1.ot (a,o) h2 (rE (show a≠fr.d+1 by omega)) (rE (show a≠fr.d+1 by omega))];have:((a,o):aR.Loc)≠(dd,7):=rE RS;simp[ah.setObj,ah.bump,upd,this]
   clear q1;refine aD.seq (aD.seq (aD.region ?_));refine av.a1 ?_;refine av.a1 ?_;refine av.a1 ?_;refine av.nil (dG.n ?_);cases hik:decide (i<k) with
   |true=>
    rw[hik,cond_true,iR] at h;obtain⟨q,hq,h⟩:=h;rw[aW] at h;obtain⟨x,hx,rfl⟩:=h;refine aD.vB jU ?_;refine aD.seq (aD.TB ay ?_);refine xF _ rfl rfl (FJ (s:=s12) (off:=0) (loc:=(1,12)) a4) dS ?_;refine xF _ rfl rfl Bf dS ?_;refine xF _ rfl rfl Bf dS ?_;refine Z6 (g:=125) (a:=[]) (b:=[.ref (1,5) s5 0,.ref (1,11) s11 0,.ref (1,12) s12 0]) ⟨true,true,[.slot 20,.slot 21,.slot 22],[.slot 23]⟩ [.obj (dd,9)] rfl rfl rfl rfl bC rfl bC rfl ?_;simp only[EB,Cg,QV,hd];change jd E 125 [.int .i64 i,.int .i64 k,.ref (1,5) s5 0,.ref (1,11) s11 0,.ref (1,12) s12 0] (dd+1) _ _;refine imp_mono (ih i k _ _ _ hq (by rw[List.length_dropLast];omega) (dd+1) _ (if l=[] then c else .full) RS ⟨?_,?_,?_,?_⟩) ?_
    .exact xE
    .exact xE
    .exact xE
    .exact xE
    rintro v Z2 ⟨rfl,⟨c',hcs'⟩,hfr⟩;have m9:((dd,9):aR.Loc)≠(1,30):=rE RS;have g9:=(uG (hfr dd 9 RS m9)).trans (su _ _ _ _);have avz:=(uG (s:=Z.next) (hfr dd 7 RS m7)).trans (show _=some AZ.c by simp only[go_sem,Nat.reduceBEq, *]);refine⟨fun k hk=>?_,?_⟩
    .rw[iZ.1 hk];exact(hfr dd 9 RS m9).symm
    refine xF _ rfl rfl (FJ (off:=0) (loc:=(dd,9)) bC) dS ?_;refine Z5 _ (JK _ _ _ hx) rfl bC jU jU (ajK rfl (by intros;rfl) (aC.pc _) (aC.pc _)) ?_;refine xF _ rfl rfl (TH (off:=0) (loc:=(dd,7)) bC) o9 ?_;refine iT.nil ?_ (dG.n (aD.ret (dG.r ?_)))
    .refine(congrArg (fun m=>Dm m _) (show nK _=[0,0,0,7,0,31,63] by kernel_rfl)).trans ?_;simp[Dm,JG,List.range,List.range.loop,Key.eq,Key.state,Nat.testBit,aR.ru,aR.Key.eq,aR.Key.state]
    rw[hres];refine pJ.one wm Ab ?_;refine⟨rfl,⟨c',hcs'.mono fun o=>?_⟩,fun a o h1 h2=>?_⟩
    .simp[ah.setObj,ah.bump,upd,n1]
    .have e1:((a,o):aR.Loc)≠(dd,7):=rE RS;have e2:((a,o):aR.Loc)≠(dd,9):=rE RS;have:=hfr a o RS h2;simp[ah.setObj,ah.bump,upd,e1,e2] at this⊢;rw[this];exact ajN a o h1 h2
   |false=>
    rw[hik,cond_false,iR] at h;obtain⟨q,hq,h⟩:=h;rw[aW] at h;obtain⟨x,hx,rfl⟩:=h;refine aD.xZ jU (aD.skip (dG.n ?_));refine aD.seq (aD.TB ay ?_);refine xF _ rfl rfl (FJ (off:=0) (loc:=(dd,9)) bC) dS ?_;refine xF _ rfl rfl (FJ (s:=s12) (off:=0) (loc:=(1,12)) a4) dS ?_;refine xF _ rfl rfl Bf dS ?_;refine xF _ rfl rfl Bf dS ?_;refine xF ⟨false,false,[.slot 28,.slot 29],[.slot 30]⟩ rfl rfl rfl dS ?_;refine xF _ rfl rfl Bf dS ?_;refine xF _ rfl rfl Bf dS ?_;refine xF ⟨false,false,[.slot 31,.slot 32],[.slot 33]⟩ rfl rfl rfl dS ?_;refine Z6 (g:=125) (a:=[]) (b:=[.ref (1,5) s5 0,.ref (1,11) s11 0,.ref (1,12) s12 0]) ⟨true,true,[.slot 27,.slot 30,.slot 33],[.slot 34]⟩ [.obj (dd,9)] rfl rfl rfl rfl bC rfl bC rfl ?_;simp only[EB,Cg,QV,hd];change jd E 125 [.int .i64 (IntKind.wrap .i64 (i-k)),.int .i64 (IntKind.wrap .i64 (n-k)),.ref (1,5) s5 0,.ref (1,11) s11 0,.ref (1,12) s12 0] (dd+1) _ _;refine imp_mono (ih _ _ _ _ _ hq (by rw[List.length_dropLast];omega) (dd+1) _ (if l=[] then c else .full) RS ⟨?_,?_,?_,?_⟩) ?_
    .exact xE
    .exact xE
    .exact xE
    .exact xE
    rintro v Z2 ⟨rfl,⟨c',hcs'⟩,hfr⟩;have m9:((dd,9):aR.Loc)≠(1,30):=rE RS;have avz:=(uG (s:=Z.next) (hfr dd 7 RS m7)).trans (show _=some AZ.c by simp only[go_sem,Nat.reduceBEq, *]);refine⟨fun k hk=>?_,?_⟩
    .rw[iZ.1 hk];exact(hfr dd 9 RS m9).symm
    refine Z5 _ (JK _ _ _ hx) rfl bC jU jU (ajK rfl (by intros;rfl) (aC.pc _) (aC.pc _)) ?_;refine xF _ rfl rfl (TH (off:=0) (loc:=(dd,7)) bC) o9 ?_;refine iT.nil ?_ (dG.n (aD.ret ?_))
    .refine(congrArg (fun m=>Dm m _) (show nK _=[0,0,0,0,12,0,0,96,254,511,1023] by kernel_rfl)).trans ?_;simp[Dm,JG,List.range,List.range.loop,Key.eq,Key.state,Nat.testBit,aR.ru,aR.Key.eq,aR.Key.state]
    rw[hres];refine pJ.one wm Ab ?_;refine⟨rfl,⟨c',hcs'.mono fun o=>?_⟩,fun a o h1 h2=>?_⟩
    .simp[ah.setObj,ah.bump,upd,n1]
    .have e1:((a,o):aR.Loc)≠(dd,7):=rE RS;have e2:((a,o):aR.Loc)≠(dd,9):=rE RS;have:=hfr a o RS h2;simp[ah.setObj,ah.bump,upd,e1,e2] at this⊢;rw[this];exact ajN a o h1 h2
theorem avA {s10 pV:Nat}{c:Cap}{l:List aC}{ok sh:Bool}{Z:ah}(h10:Z.dK (1,10) s10=some [.bool ok])(NC:Z.dK (1,30) pV=some [.ak c (l.map aC.v),.bool sh]):
 jd E 124 [.ref (1,30) pV 0,.ref (1,10) s10 0] 2 Z (fun _ Z1=>Z1.dK (1,10) s10=some [.bool (ok&& !sh&& l.isEmpty)]):=by
 have hP:E.P=Tryz.prog:=rfl;have hmap:(l.map aC.v).length=l.length:=eU ..;refine jd.of (fn:=Tryz.f124) (c:=Tryz.f124.body.getD .skip) Tryz.func124 rfl ay ?_;generalize hfr:({d:=2,aj:=E.aj 124,tm:=fun j=>([.ref (1,30) pV 0,.ref (1,10) s10 0]:List V).getD j aJ}:Fr)=fr;have a0:fr.tm 0= .ref (1,30) pV 0:=iU
 have a1:fr.tm 1= .ref (1,10) s10 0:=iU
 have bO:fr.aj=false:=iU
 clear hfr;have l0:∀c L sh,gV Tryz.prog 70 [V.ak c L,.bool sh] 0=some (.ak c L):=fun _ _ _=>ay
 have l1:∀c L sh,gV Tryz.prog 4 [V.ak c L,.bool sh] 1=some (.bool sh):=fun _ _ _=>ay
 have l2:∀b:Bool,gV Tryz.prog 4 [V.bool b] 0=some (.bool b):=fun _=>ay
 have hres:Tryz.f124.results.toList=[]:=rfl;have hle:((((l.map aC.v).length:Nat):Int)==0)=l.isEmpty:=by cases l<;>simp<;>omega
 refine aD.region ?_;refine av.a1 ?_;refine av.a1 ?_;refine av.a1 ?_;refine av.a1 ?_;refine av.a1 ?_;cases ok with
 |false=>refine av.s1 dV ?_;refine av.s1 dV ?_;refine av.s1 dV ?_;refine av.s1 dV ?_;refine av.s1 dV ?_;refine av.o1 bC uQ ?_;refine av.a1 ?_;refine av.s1 dV ?_;refine av.s1 dV ?_;refine av.s1 dV ?_;refine av.s1 dV ?_;refine av.s1 dV ?_;refine av.s1 dV ?_;refine av.o1 bC uQ ?_;refine av.a1 ?_;refine av.o0 bC o9 ?_;refine av.nil ?_;rw[hres];exact⟨[],rfl,PI⟩
 |true=>
  refine av.o1 dV dS ?_;refine av.o1 dV dS ?_;refine av.o1 dV dS ?_;refine av.o1 dV dS ?_;refine av.o1 dV dS ?_;cases sh with
  |true=>refine av.o1 bC yN ?_;refine av.a1 ?_;refine av.s1 dV ?_;refine av.s1 dV ?_;refine av.s1 dV ?_;refine av.s1 dV ?_;refine av.s1 dV ?_;refine av.s1 dV ?_;refine av.o1 bC uQ ?_;refine av.a1 ?_;refine av.o0 bC o9 ?_;refine av.nil ?_;rw[hres];exact⟨[],rfl,PI⟩
  |false=>refine av.o1 bC yN ?_;refine av.a1 ?_;refine av.o1 dV dS ?_;refine av.o1 dV dS ?_;refine av.o1 dV dS ?_;refine av.o1 dV dS ?_;refine av.o1 dV dS ?_;refine av.o1 dV dS ?_;refine av.o1 bC yN ?_;refine av.a1 ?_;refine av.o0 bC o9 ?_;refine av.nil ?_;rw[hres];rw[hmap] at hle;exact⟨[],rfl,by simp only[go_sem,Nat.reduceBEq, *];rw[<-hle];rfl⟩
theorem vT.r {E:Env}{fr:Fr}{Z:ah}{b:Code}{Q:Ex->Fr->ah->vR->Prop}(h:Q .ret fr Z none):vT E b Q .ret fr Z:=h
theorem avB {E:Env}{S:iN}{fr:Fr}{Z:ah}{ops:List Oper}{base:Nat}{o:Oper}{v:V}(h0:ops[0]? =some o)(hw:fD ops fr o=some true)(hop:Is (opC E S fr Z (base+0) o) (some (v,fr,Z))):opsL E S ops base (List.range 1) fr Z=some (fr.put o.dst v,Z):=by show (jc E S ops base 0 fr Z).bind (fun (fr,Z)=>opsL E S ops base [] fr Z)=_;rw[zS h0 hw hop];rfl
theorem ajO {E:Env}{S:iN}{fr:Fr}{Z:ah}{st ty:Nat}{pos:String}{bV:Array Edge}{gd:Option (Nat×Bool)}{d:Option Nat}{f:FuncId}{a b:List Operand}:opC E S fr Z st ⟨d,.makeFunc (.func f) a.toArray b.toArray,ty,pos,bV,gd⟩=some (.fn (.func f) (a.map (fr.ev E)) (b.map (fr.ev E)),fr,Z):=rfl
theorem avC {E:Env}{Z:ah}{f:FuncId}{args:List V}{d:Nat}{fn:Func}{c:Code}{R:V->ah->Prop}(hf:E.P.funcs[f]? =some fn)(hb:fn.body=some c)(hok:(decide (args.length<=fn.ntmps)&& iD fn.ntmps c&& j4 c)=true)(h:uJ E c {d:=d,aj:=E.aj f,tm:=fun i=>args.getD i aJ} Z (fun e bJ Z1 q=>(e= .normal\/e= .ret)/\q=none/\∃vs,fn.results.toList.mapM (jo E bJ Z1)=some vs/\R (Dp vs) Z1)):
 ∃m v Z',FI E (bH E m) (bH E (m+1)) f args d Z=some (v,Z')/\R v Z':=by
 obtain⟨n,e,bJ,Z1,q,h1,he,rfl,vs,h3,h4⟩:=h;have hok':args.length<=fn.ntmps/\iD fn.ntmps c/\j4 c=true:=by simp only[aZ,decide_eq_true_eq] at hok;exact⟨hok.1.1,hok.1.2,hok.2⟩
 refine⟨n,Dp vs,Z1,?_,h4⟩;unfold FI;rw[hf,Option.bind_some,hb,Option.bind_some,if_pos hok',h1,Option.bind_some];rcases he with rfl|rfl
 .dsimp only;rw[Option.bind_some,h3];rfl
 .dsimp only;rw[Option.bind_some,h3];rfl
theorem ajP (x y:aC):rZ Tryz.prog .eql 44 x.v y.v=some (.bool (zJ x y)):=by cases x;cases y;kernel_rfl
theorem avD {node:aC×aC->Option aC}{split:Int->Option Int}(JK:∀a b x,node (a,b)=some x->Pure E 113 [a.v,b.v] x.v)(hsplit:∀p x,split p=some x->Pure E 110 [.int .i64 p] (.int .i64 x)){leaf root:aC}{i n:Int}{l:List aC}{b:Bool}(hl:l.length<2^62)(h:MW node split leaf i n l root=some b):
 ∃m v Z',FI E (bH E m) (bH E (m+1)) 70 [leaf.v,.int .i64 i,.int .i64 n,lv aC.v l,root.v] 1 ah.init=some (v,Z')/\v= .bool b:=by
 have hP:E.P=Tryz.prog:=rfl;have hres:Tryz.f70.results.toList=[.cell 10 4]:=rfl;have l2:∀b:Bool,gV Tryz.prog 4 [V.bool b] 0=some (.bool b):=fun _=>ay
 have z4:iM Tryz.prog 4=some (.bool false):=ay
 have aBj:tK E 44 (some 5)=false:=rfl;have aBk:tK E 44 (some 9)=false:=rfl;cases he:(decide (n<1)||decide (n>1099511627776)||decide (i<0)||decide (i>=n)) with
 |true=>
  unfold MW at h;rw[he,cond_true] at h;cases h;refine avC (fn:=Tryz.f70) (c:=Tryz.f70.body.getD .skip) (R:=fun v _=>v= .bool false) Tryz.func70 rfl ay ?_;generalize hfr:({d:=1,aj:=E.aj 70,tm:=fun j=>([leaf.v,.int .i64 i,.int .i64 n,lv aC.v l,root.v]:List V).getD j aJ}:Fr)=fr;have a0:fr.tm 0=leaf.v:=iU
  have a1:fr.tm 1= .int .i64 i:=iU
  have a2:fr.tm 2= .int .i64 n:=iU
  have a3:fr.tm 3=lv aC.v l:=iU
  have a4:fr.tm 4=root.v:=iU
  have hd:fr.d=1:=BD
  have bO:fr.aj=false:=iU
  clear hfr;refine uJ.seq (aD.region ?_);refine av.a1 ?_;refine av.a1 ?_;refine av.a1 ?_;refine av.nil (vT.n ?_);refine uJ.seq (aD.seq (aD.region ?_));cases h1:decide (n<1) with
  |true=>refine av.a1 ?_;refine av.a1 ?_;refine av.a1 ?_;refine av.s1 dV ?_;refine av.s1 dV ?_;refine av.o1 bC yN ?_;refine av.a1 ?_;refine av.s1 dV ?_;refine av.s1 dV ?_;refine av.o1 bC yN ?_;refine av.a1 ?_;refine av.s1 dV ?_;refine av.s1 dV ?_;refine av.s1 dV ?_;refine av.o1 bC yN ?_;refine av.nil (dG.n (aD.vB jU (aD.seq (aD.region ?_))));refine av.o0 bC o9 ?_;refine av.nil (dG.n (aD.ret (vT.r ?_)));refine⟨.inr rfl,rfl,[.bool false],?_,rfl⟩;rw[hres];simp only[iG,List.mapM_nil,jo,go_sem,Nat.reduceBEq, *];rfl
  |false=>
   cases h2:decide (n>1099511627776) with
   |true=>refine av.a1 ?_;refine av.a1 ?_;refine av.a1 ?_;refine av.o1 dV dS ?_;refine av.o1 dV dS ?_;refine av.o1 bC uQ ?_;refine av.a1 ?_;refine av.s1 dV ?_;refine av.s1 dV ?_;refine av.o1 bC yN ?_;refine av.a1 ?_;refine av.s1 dV ?_;refine av.s1 dV ?_;refine av.s1 dV ?_;refine av.o1 bC yN ?_;refine av.nil (dG.n (aD.vB jU (aD.seq (aD.region ?_))));refine av.o0 bC o9 ?_;refine av.nil (dG.n (aD.ret (vT.r ?_)));refine⟨.inr rfl,rfl,[.bool false],?_,rfl⟩;rw[hres];simp only[iG,List.mapM_nil,jo,go_sem,Nat.reduceBEq, *];rfl
   |false=>
    cases h3:decide (i<0) with
    |true=>refine av.a1 ?_;refine av.a1 ?_;refine av.a1 ?_;refine av.o1 dV dS ?_;refine av.o1 dV dS ?_;refine av.o1 bC uQ ?_;refine av.a1 ?_;refine av.o1 dV dS ?_;refine av.o1 dV dS ?_;refine av.o1 bC uQ ?_;refine av.a1 ?_;refine av.s1 dV ?_;refine av.s1 dV ?_;refine av.s1 dV ?_;refine av.o1 bC yN ?_;refine av.nil (dG.n (aD.vB jU (aD.seq (aD.region ?_))));refine av.o0 bC o9 ?_;refine av.nil (dG.n (aD.ret (vT.r ?_)));refine⟨.inr rfl,rfl,[.bool false],?_,rfl⟩;rw[hres];simp only[iG,List.mapM_nil,jo,go_sem,Nat.reduceBEq, *];rfl
    |false=>have h4:decide (i>=n)=true:=(by rw[h1,h2,h3] at he;simpa using he);refine av.a1 ?_;refine av.a1 ?_;refine av.a1 ?_;refine av.o1 dV dS ?_;refine av.o1 dV dS ?_;refine av.o1 bC uQ ?_;refine av.a1 ?_;refine av.o1 dV dS ?_;refine av.o1 dV dS ?_;refine av.o1 bC uQ ?_;refine av.a1 ?_;refine av.o1 dV dS ?_;refine av.o1 dV dS ?_;refine av.o1 dV dS ?_;refine av.o1 bC uQ ?_;refine av.nil (dG.n (aD.vB jU (aD.seq (aD.region ?_))));refine av.o0 bC o9 ?_;refine av.nil (dG.n (aD.ret (vT.r ?_)));refine⟨.inr rfl,rfl,[.bool false],?_,rfl⟩;rw[hres];simp only[iG,List.mapM_nil,jo,go_sem,Nat.reduceBEq, *];rfl
 |false=>
  unfold MW at h;rw[he,cond_false,aW] at h;obtain⟨r,hr,rfl⟩:=h;have h1:decide (n<1)=false:=by cases h:decide (n<1)<;>rw[h] at he<;>simp_all
  have h2:decide (n>1099511627776)=false:=by cases h:decide (n>1099511627776)<;>rw[h] at he<;>simp_all
  have h3:decide (i<0)=false:=by cases h:decide (i<0)<;>rw[h] at he<;>simp_all
  have h4:decide (i>=n)=false:=by cases h:decide (i>=n)<;>rw[h] at he<;>simp_all
  have aBl:tK E 181 (some 30)=false:=rfl;have aBm:iM Tryz.prog 179=some .gU:=ay
  have aBn:iM Tryz.prog 184=some .gH:=ay
  have aBo:dF Tryz.prog 179=some 1:=ay
  have aBp:dF Tryz.prog 184=some 1:=ay
  have aBq:bY V.gU.cells=true:=rfl;have aBr:bY V.gH.cells=true:=rfl;have aBs:∀x:V,gI V.gU.cells 0 [x]=[x]:=fun _=>rfl;have aBt:∀x:V,gI V.gH.cells 0 [x]=[x]:=fun _=>rfl;have lP:V.gU.cells.length=1:=rfl;have aBu:V.gH.cells.length=1:=rfl;have eqd:=ajP r.1 root;have aBv:∀x y:V,gI [y] 0 [x]=[x]:=fun _ _=>rfl;have b2:Q5 E 181 [(0,lv aC.v l)]=some [lv aC.v l,.bool false]:=ay
  have f1:∀a b c:V,gV Tryz.prog 184 [.fn (.func 125) [] [a,b,c]] 0=some (.fn (.func 125) [] [a,b,c]):=fun _ _ _=>rfl;have p1:∀s,gV Tryz.prog 179 [.ref (1,30) s 0] 0=some (.ref (1,30) s 0):=fun _=>rfl;refine avp (fn:=Tryz.f70) (c:=Tryz.f70.body.getD .skip) (R:=fun v _=>v= .bool (zJ r.1 root&& !r.2.2&& r.2.1.isEmpty)) Tryz.func70 rfl ay ?_;generalize hfr:({d:=1,aj:=E.aj 70,tm:=fun j=>([leaf.v,.int .i64 i,.int .i64 n,lv aC.v l,root.v]:List V).getD j aJ}:Fr)=fr;have a0:fr.tm 0=leaf.v:=iU
  have a1:fr.tm 1= .int .i64 i:=iU
  have a2:fr.tm 2= .int .i64 n:=iU
  have a3:fr.tm 3=lv aC.v l:=iU
  have a4:fr.tm 4=root.v:=iU
  have hd:fr.d=1:=BD
  have bO:fr.aj=false:=iU
  clear hfr;refine uJ.seq (aD.region ?_);refine av.a1 ?_;refine av.a1 ?_;refine av.a1 ?_;refine av.nil (vT.n ?_);refine uJ.seq (aD.seq (aD.region ?_));refine av.a1 ?_;refine av.a1 ?_;refine av.a1 ?_;refine av.o1 dV dS ?_;refine av.o1 dV dS ?_;refine av.o1 bC uQ ?_;refine av.a1 ?_;refine av.o1 dV dS ?_;refine av.o1 dV dS ?_;refine av.o1 bC uQ ?_;refine av.a1 ?_;refine av.o1 dV dS ?_;refine av.o1 dV dS ?_;refine av.o1 dV dS ?_;refine av.o1 bC uQ ?_;refine av.nil (dG.n (aD.xZ jU (aD.skip (vT.n ?_))));refine uJ.seq (aD.region ?_);refine av.a1 ?_;refine av.a1 ?_;refine av.a1 ?_;refine av.a1 ?_;refine av.o0 bC o9 ?_;refine av.nil (vT.n ?_);refine uJ.defer (k:=1) (m:=0) rfl ⟨rfl,rfl⟩ (avB rfl rfl jU) bC ?_;refine aD.seq (aD.region ?_);refine av.a1 ?_;refine av.nil (dG.n ?_);refine aD.seq (aD.region ?_);refine av.o1 bC (by intro S;rw[ajO (a:=[]) (b:=[.tmp 5,.tmp 11,.tmp 12])];simp only[iA,List.map_nil,go_sem,Nat.reduceBEq,Nat.reduceAdd, *];exact Is.rfl) ?_;refine av.o0 bC o9 ?_;refine av.nil (dG.n ?_);refine aD.seq (aD.TB ay ?_);refine xF _ rfl rfl (FJ (off:=0) (loc:=(1,12)) bC) dS ?_;refine xF _ rfl rfl Bf dS ?_;refine xF _ rfl rfl Bf dS ?_;refine Z6 (g:=125) (a:=[]) ⟨true,true,[.slot 33,.slot 34,.slot 35],[.slot 36]⟩ [.obj (1,9)] rfl rfl rfl rfl bC rfl bC rfl ?_;simp only[EB,Cg,QV,hd];change jd E 125 [.int .i64 i,.int .i64 n,.ref (1,5) _ 0,.ref (1,11) _ 0,.ref (1,12) _ 0] 2 _ _;refine imp_mono (avy (pV:=20) JK hsplit _ i n l false r hr hl 2 _ .sh aL ⟨ay,ay,ay,ay⟩) ?_;rintro v Z2 ⟨rfl,⟨c',hcs'⟩,hfr⟩;have g9:=(uG (s:=ah.init.next+1) (hfr 1 9 aL aL)).trans (show _=some root.c by kernel_rfl);have g10:=(uG (s:=ah.init.next+2) (hfr 1 10 aL aL)).trans (show _=some [.bool false] by kernel_rfl);refine⟨fun k hk=>?_,?_⟩
  .rw[iZ.1 hk];exact(hfr 1 9 aL aL).symm
  refine xF _ rfl rfl (FJ (off:=0) (loc:=(1,9)) bC) dS ?_;refine xF (v:=.bool (zJ r.1 root)) ⟨false,false,[.slot 36,.slot 37],[.slot 38]⟩ rfl rfl rfl (by intro S;rw[afq];exact congrArg (Option.map fun v=>(v,_,_)) (ajP r.1 root)) ?_;refine xF _ rfl rfl (TH (off:=0) (loc:=(1,10)) bC) o9 ?_;refine iT.nil ay (dG.n (aD.ret ?_));refine⟨.inr rfl,124,[.ref (1,30) 20 0,.ref (1,10) (ah.init.next+2) 0],rfl,ay,imp_mono (avA (c:=c') (l:=r.2.1) (ok:=zJ r.1 root) (sh:=r.2.2) ?_ ?_) fun _ Z3 h3=>⟨[.bool (zJ r.1 root&& !r.2.2&& r.2.1.isEmpty)],?_,rfl⟩⟩
  .simp only[go_sem,Nat.reduceBEq, *]
  .exact(EC _ _ _ _ rfl).trans hcs'.TI
  .rw[hres];simp only[iG,List.mapM_nil,jo,go_sem,Nat.reduceBEq,h3, *];rfl
end Sh
end
section
namespace aR
open Go Go.RowKit
theorem avE {E:Env}{call:FuncId->List V->Nat->ah->Option (V×ah)}(hS:Ey E call){f:FuncId}{args:List V}{v v0:V}{Z1:ah}(hc:call f args 1 ah.init=some (v0,Z1))(h:bg 20 Z1 v0=some v):tX E f args v:=by
 obtain⟨_,hb,hs⟩:=hS _ _ _ _ _ _ hc;refine⟨hb,fun I IM w dU hl hr=>?_⟩;have hr':RelA (bq.lend I IM) ah.init.top w args dU:=hr;refine(hs none w.heap.size (bq.lend I IM) w dU (VB hl) (mF _) (fun s hs=>hs.elim) hr').mono ?_;intro e w' hp;cases e with
 |returned c=>
  obtain⟨K1,r1,s1,_,st⟩:=hp;refine⟨st.below,?_⟩;have:=VA (T':=fun _=>0) s1 20 v0 v c r1 h;refine this.Li (fun b o hi=>⟨⟨?_,hi.2⟩,rfl⟩) (fun b hi=>⟨⟨?_,hi.2⟩,rfl⟩)
  .rcases hi.1 with h1|h1
   .exact st.y8 b o h1
   .exact .inr h1
  .rcases hi.1 with h1|h1
   .exact st.y9 b h1
   .exact .inr h1
 |panicked ch=>exact hp.elim|outgrown=>exact hp.elim
end aR
end
section
open Go Go.Proofs aR
namespace Sh
set_option maxRecDepth 100000
attribute [local irreducible] pR
theorem TJ {n:Nat}(h:2<=n):1<=fA n/\fA n<n:=by have h1:2^Nat.log2 (n-1)<=n-1:=Nat.log2_self_le RS;have h2:0<2^Nat.log2 (n-1):=Nat.pow_pos aL;unfold fA;omega
theorem avF:∀i:Fin 256,1<=i.val->xg[i.val]? =some (UInt8.ofNat (Nat.log2 i.val+1)):=KU
theorem Z7 {x:Nat}(h1:1<=x)(h2:x<256):aK xg (IntKind.wrap .u8 ((x:Nat):Int))=some (UInt8.ofNat (Nat.log2 x+1)):=by
 have hw:IntKind.wrap .u8 ((x:Nat):Int)=((x:Nat):Int):=by rw[IntKind.wrap_u8];omega
 have hl:xg.length=256:=KU
 rw[hw];unfold aK;rw[if_pos ⟨RS,by rw[hl];omega⟩,Int.toNat_natCast];exact avF ⟨x,h2⟩ h1
theorem Z8 {x:Nat}(h1:1<=x)(h2:x<256):Nat.log2 x<8:=(Nat.log2_lt RS).2 RS
theorem Z9 {x:Nat}(h:256<=x):Nat.log2 x=8+Nat.log2 (x/256):=by
 have hx:x/256≠0:=RS
 apply Nat.le_antisymm
 .apply Nat.le_of_lt_succ;rw[Nat.log2_lt RS];have h1:x/256<2^(Nat.log2 (x/256)+1):=Nat.lt_log2_self;have h2:2^(8+Nat.log2 (x/256)).succ=256*2^(Nat.log2 (x/256)+1):=by rw[Nat.succ_eq_add_one,oG,Nat.pow_add]
  rw[h2];omega
 .rw[Nat.le_log2 RS,Nat.pow_add];have h1:2^Nat.log2 (x/256)<=x/256:=Nat.log2_self_le hx;have:2^8*2^Nat.log2 (x/256)<=2^8*(x/256):=Nat.mul_le_mul_left _ h1;omega
theorem avG {n x:Nat}(h1:1<=x)(h2:x<65536):Dh n ((x:Nat):Int)=some ((Nat.log2 x+1:Nat):Int):=by
 rw[ZF];refine mP (decide_eq_false RS) (mP (decide_eq_false RS) ?_);by_cases h:256<=x
 .have hl:=Z9 h;have hs:=Z8 (x:=x/256) RS RS;refine kG (decide_eq_true RS) ?_;refine gR aL ?_;have hsh:aH .u64 ((x:Nat):Int) 8=((x/256:Nat):Int):=by show Int.fdiv ((x:Nat):Int) (2^8)=_;rw[Int.fdiv_eq_ediv_of_nonneg _ aL];omega
  rw[hsh,Z7 RS RS];show some _=_;congr 1;rw[UInt8.toNat_ofNat_of_lt' (show Nat.log2 (x/256)+1<256 by omega),hl];rw[IntKind.wrap_i64,IntKind.wrap_i64,IntKind.wrap_i64];omega
 .have hs:=Z8 (x:=x) RS RS;refine mP (decide_eq_false RS) ?_;rw[Z7 RS RS];show some _=_;congr 1;rw[UInt8.toNat_ofNat_of_lt' (show Nat.log2 x+1<256 by omega)];rw[IntKind.wrap_i64,IntKind.wrap_i64];omega
theorem ajQ {x k:Nat}(h:2^k<=x):Nat.log2 x=k+Nat.log2 (x/2^k):=by
 have hk:0<2^k:=Nat.pow_pos aL;have hx:x/2^k≠0:=by have:=Nat.div_pos h hk;omega
 have hx0:x≠0:=RS
 apply Nat.le_antisymm
 .apply Nat.le_of_lt_succ;rw[Nat.log2_lt hx0];have h1:x/2^k<2^(Nat.log2 (x/2^k)+1):=Nat.lt_log2_self;have h2:2^(k+Nat.log2 (x/2^k)).succ=2^(Nat.log2 (x/2^k)+1)*2^k:=by rw[Nat.succ_eq_add_one,oG,Nat.pow_add,wB]
  rw[h2];exact(Nat.div_lt_iff_lt_mul hk).1 h1
 .rw[Nat.le_log2 hx0,Nat.pow_add];have h1:2^Nat.log2 (x/2^k)<=x/2^k:=Nat.log2_self_le hx;have h2:2^k*2^Nat.log2 (x/2^k)<=2^k*(x/2^k):=Nat.mul_le_mul_left _ h1;exact eO h2 (Nat.mul_div_le ..)
theorem TK (x k:Nat)(hk:k<=64):aH .u64 ((x:Nat):Int) ((k:Nat):Int)=((x/2^k:Nat):Int):=by show Int.fdiv ((x:Nat):Int) (2^min (((k:Nat):Int)).toNat 64)=_;rw[Int.toNat_natCast,wC hk,Int.fdiv_eq_ediv_of_nonneg _ (by exact Int.le_of_lt (Int.pow_pos aL))];rw[Int.natCast_ediv];congr 1
theorem TL {y a:Nat}(h1:1<=y)(h2:y<256)(ha:a<=64):(aK xg (IntKind.wrap .u8 ((y:Nat):Int))).bind (fun (r2:UInt8)=>some (IntKind.wrap .i64 (((a:Nat):Int)+IntKind.wrap .i64 (r2.toNat:Int))))=some ((a+Nat.log2 y+1:Nat):Int):=by have hs:=Z8 h1 h2;rw[Z7 h1 h2];show some _=_;congr 1;rw[UInt8.toNat_ofNat_of_lt' (show Nat.log2 y+1<256 by omega)];simp only[IntKind.wrap_i64];omega
theorem avH {n x:Nat}(h1:4294967296<=x)(h2:x<2^41):Dh n ((x:Nat):Int)=some ((Nat.log2 x+1:Nat):Int):=by
 rw[ZF];have hl:=ajQ (x:=x) (k:=32) RS;have hy1:1<=x/2^32:=RS
 have hy2:x/2^32<512:=RS
 have avI:aH .u64 ((x:Nat):Int) (32:Int)=((x/2^32:Nat):Int):=TK x 32 aL;rw[kG (decide_eq_true RS) rfl,kG aL rfl,avI];generalize x/2^32=y at hl hy1 hy2;rw[mP (decide_eq_false RS) rfl];by_cases h8:256<=y
 .have aac:=Z9 h8;have s8:aH .u64 ((y:Nat):Int) (8:Int)=((y/2^8:Nat):Int):=TK y 8 aL;rw[kG (decide_eq_true RS) rfl,kG aL rfl,s8,show IntKind.wrap .i64 ((32:Int)+(8:Int))=((40:Nat):Int) by decide];refine(TL RS RS aL).trans ?_;rw[hl,aac,show y/2^8=y/256 by omega];congr 2;omega
 .rw[mP (decide_eq_false RS) rfl,show (32:Int)=((32:Nat):Int) from rfl];refine(TL RS RS aL).trans ?_;rw[hl]
theorem avJ {n x:Nat}(h1:65536<=x)(h2:x<4294967296):Dh n ((x:Nat):Int)=some ((Nat.log2 x+1:Nat):Int):=by
 rw[ZF];have hl:=ajQ (x:=x) (k:=16) RS;have hy1:1<=x/2^16:=RS
 have hy2:x/2^16<65536:=RS
 have s16:aH .u64 ((x:Nat):Int) (16:Int)=((x/2^16:Nat):Int):=TK x 16 aL;rw[mP (decide_eq_false RS) rfl,kG (decide_eq_true RS) rfl,kG aL rfl,s16];generalize x/2^16=y at hl hy1 hy2;by_cases h8:256<=y
 .have aac:=Z9 h8;have s8:aH .u64 ((y:Nat):Int) (8:Int)=((y/2^8:Nat):Int):=TK y 8 aL;rw[kG (decide_eq_true RS) rfl,kG aL rfl,s8,show IntKind.wrap .i64 (IntKind.wrap .i64 ((0:Int)+(16:Int))+(8:Int))=((24:Nat):Int) by decide];refine(TL RS RS aL).trans ?_;rw[hl,aac,show y/2^8=y/256 by omega];congr 2;omega
 .rw[mP (decide_eq_false RS) rfl,show IntKind.wrap .i64 ((0:Int)+(16:Int))=((16:Nat):Int) by decide];refine(TL RS RS aL).trans ?_;rw[hl]
theorem avK {n x:Nat}(h1:1<=x)(h2:x<2^41):Dh n ((x:Nat):Int)=some ((Nat.log2 x+1:Nat):Int):=by
 by_cases h16:x<65536
 .exact avG h1 h16
 by_cases h32:x<4294967296
 .exact avJ RS h32
 .exact avH RS h2
theorem ND {n k:Nat}(h2:2<=k)(h:k<=2^40):ZD n ((k:Nat):Int)=some ((fA k:Nat):Int):=by
 rw[aum,iy (i:=((k:Nat):Int)-1) RS RS,Tq (x:=((k:Nat):Int)-1) RS RS,show ((k:Nat):Int)-1=((k-1:Nat):Int) by omega];have hl:Nat.log2 (k-1)<41:=(Nat.log2_lt RS).2 RS;have h1:Nk n ((k-1:Nat):Int)=some ((Nat.log2 (k-1)+1:Nat):Int):=by rw[aul];exact bs (avK RS RS) rfl
 refine bs h1 ?_;rw[iy RS RS];refine gR (decide_eq_true RS) ?_;have e:(((Nat.log2 (k-1)+1:Nat):Int))-1=((Nat.log2 (k-1):Nat):Int):=RS
 rw[e];show some (IntKind.wrap .i64 (1*2^min (((Nat.log2 (k-1):Nat):Int)).toNat 64))=_;congr 1;rw[Int.toNat_natCast,wC RS,Int.one_mul];have hp:2^Nat.log2 (k-1)<=k-1:=Nat.log2_self_le RS;have hc:((2^Nat.log2 (k-1):Nat):Int)=(2:Int)^Nat.log2 (k-1):=by push_cast;rfl
 rw[<-hc];unfold fA;generalize 2^Nat.log2 (k-1)=q at hp⊢;exact iy RS RS
theorem ajR (a b x:aC)(h:MX (a,b)=some x):Pure E 113 [a.v,b.v] x.v:=by
 cases h;refine aiG 1000 (a,b) _ ?_;have la:(nS a).length=16:=rfl;have lb:(nS b).length=16:=rfl;have le:∀d:aC,(fu (nS d)).length=17:=fun d=>rfl;have hsz:iY fu [nS a,nS b]=34:=by show (fu (nS a)).length+((fu (nS b)).length+0)=34;rw[le,le]
 rw[ai3];refine bs (JF (n:=1000) (t:=31) (ls:=[nS a,nS b]) (fun x hx=>?_) ?_ ?_ (by show 2<1000;decide) aL (by show 2<2^62;decide)) rfl
 .rcases iC.1 hx with rfl|hx
  .omega
  .rw[iZ.1 hx];omega
 .rw[hsz];decide
 .rw[hsz];decide
theorem ajS (p x:Int)(h:Da p=some x):Pure E 110 [.int .i64 p] (.int .i64 x):=by
 unfold Da at h;split at h
 .rename_i hc;cases h;have:=ND (n:=5) (k:=p.toNat) RS RS;rw[Gl RS] at this;exact ZB 5 p _ this
 .cases h
end Sh
end
