import Derived.Test.YtdcnajadcbedkaaGreatDoorF916
set_option linter.all false
section
open Go Go.Proofs aR
namespace Sh
set_option maxRecDepth 100000
set_option maxHeartbeats 1000000
section
variable {E:Env}{S:iV}{fr:Fr}{Y:ah}{st ty:Nat}{pos:String}{cK:Array Edge}{gd:Option (Nat×Bool)}
theorem axM {d:Option Nat}(x:Operand):opC E S fr Y st ⟨d,.nilCheck x,ty,pos,cK,gd⟩=(match fr.ev E x with
 |.ref loc s off=>some (.ref loc s off,fr,Y)|.aY cs off=>some (.aY cs off,fr,Y)|.fn (.func f) a b=>some (.fn (.func f) a b,fr,Y)|_=>none):=by
 simp only[opC,dM];cases fr.ev E x with
 |fn f a b=>cases f<;>rfl|_=>rfl
attribute [go_sem] axM
theorem ZV {d:Option Nat}{x h m:Operand}{t e:TypeId}{sz:Nat}{c:Cap}{l:List V}{k:Int}(hx:fr.ev E x= .ak c l)(hh:fr.ev E h= .int .i64 k)(hm:fr.ev E m= .int .i64 k)(hu:E.P.underlying t=some (.slice e))(hs:dO E.P e=some sz)(hz:oF sz l=true)(h0:0<=k)(h1:k<=(l.length:Nat)):
 opC E S fr Y st ⟨d,.slice t x none (some h) (some m),ty,pos,cK,gd⟩=some (.ak .full (l.take k.toNat),fr,Y):=by
 show Option.map _ ((lC E.P Y t (fr.ev E x) none (some (fr.ev E h)) (some (fr.ev E m))).map fun v=>(v,Y))=_;rw[hx,hh,hm];unfold lC;rw[hu];dsimp only;rw[hs,Option.bind_some];have:jH l.length l.length none (some (.int .i64 k)) (some (.int .i64 k))=some (0,k.toNat,k.toNat):=by unfold jH bnd pQ;simp only[Option.bind_some];rw[if_pos ⟨h0,h1⟩,Option.bind_some];rw[if_pos ⟨h0,RS⟩,Option.bind_some]
 rw[this,Option.bind_some,if_pos hz,if_neg aD];simp
end
structure ZW (Y:ah)(d s:Nat)(c:Cap)(l:List au)(sh:Bool)(v:V)(aB:ah):Prop where
 v:v=(nS l).v
 nx:aB.next=Y.next+(if l=[] then 15 else 34)
 top:aB.top=Y.top
 lp:aB.loops=Y.loops
 ob:aB.obj (1,30)=some (s,.cells [.ak (if l=[] then c else .full) (l.dropLast.map au.v),.bool (sh||l.isEmpty)])
 o2:aB.obj (d,2)=some (Y.next,.cells (nS l).c)
 o4:aB.obj (d,4)=if l=[] then Y.obj (d,4) else some (Y.next+17,.cells (nS l).c)
 ot:∀p,p≠(1,30)->p≠(d,2)->p≠(d,4)->aB.obj p=Y.obj p
theorem Bu (l:List au):wW 16 (l.map au.v)=true:=aui (f:=au.v) (sz:=16) (fun x=>⟨by rw[au.cells];exact au.len x,by rw[au.cells];exact au.one x⟩) l
theorem axN {d s:Nat}{c:Cap}{l:List au}{sh:Bool}{Y:ah}(hd:1<d)(hl:l.length<2^62)(h:Y.dS (1,30) s=some [.ak c (l.map au.v),.bool sh]):
 iW E 147 [.ref (1,30) s 0] d Y (ZW Y d s c l sh):=by
 have hP:E.P=Tryz.prog:=rfl;have hmap:(l.map au.v).length=l.length:=fF ..;have e2:dO E.P 23=some 16:=av
 have e6:E.P.underlying 65=some (.slice 23):=av
 refine iW.of (fn:=Tryz.f147) (c:=Tryz.f147.body.getD .skip) Tryz.func147 rfl av ?_;generalize hfr:({d:=d,aj:=E.aj 147,tm:=fun j=>([.ref (1,30) s 0]:List V).getD j aP}:Fr)=fr;have a0:fr.tm 0= .ref (1,30) s 0:=iL
 have hd':fr.d=d:=Ay
 have bT:fr.aj=false:=iL
 clear hfr;have z1:je Tryz.prog 23=some yO.v:=av
 have l0:∀c L sh,gT Tryz.prog 65 [V.ak c L,.bool sh] 0=some (.ak c L):=fun _ _ _=>av
 have l1:∀c L sh,gT Tryz.prog 4 [V.ak c L,.bool sh] 1=some (.bool sh):=fun _ _ _=>av
 have b0:R7 E 23 []=some yO.c:=av
 have axO:∀x:au,gM yO.c 0 x.c=x.c:=fun _=>av
 have sp1:∀(c c2:Cap)(L L2:List V)(sh:Bool),gM [V.ak c L,V.bool sh] 0 [V.ak c2 L2]=[V.ak c2 L2,V.bool sh]:=fun _ _ _ _ _=>rfl;have sp2:∀(c:Cap)(L:List V)(sh b:Bool),gM [V.ak c L,V.bool sh] 1 [V.bool b]=[V.ak c L,V.bool b]:=fun _ _ _ _=>rfl;have hres:Tryz.f147.results.toList=[.cell 2 23]:=rfl;refine aF.seq (aF.region ?_);refine ay.a1 ?_;refine ay.nil (dw.n ?_);refine aF.seq (aF.region ?_);refine ay.a1 ?_;refine ay.a1 ?_;refine ay.a1 ?_;refine ay.a1 ?_;refine ay.a1 ?_;refine ay.a1 ?_;refine ay.nil (dw.n ?_);refine aF.seq (aF.seq (aF.region ?_));refine ay.a1 ?_;refine ay.a1 ?_;refine ay.nil (dw.n ?_);cases l with
 |nil=>
  refine aF.uf (by exact Is.rfl) ?_;refine aF.seq (aF.region ?_);refine ay.a1 ?_;refine ay.a1 ?_;refine ay.a1 ?_;refine ay.o0 bD pK ?_;refine ay.nil (dw.n ?_);refine aF.seq (aF.region ?_);refine ay.a1 ?_;refine ay.o0 bD pK ?_;refine ay.nil (dw.n (aF.ret (dw.r ?_)));rw[hres];refine oI.one tK xV ?_;have hne:((d,2):aR.Loc)≠(1,30):=GQ
  have Ue:((d,4):aR.Loc)≠(1,30):=GQ
  have hne2:((d,4):aR.Loc)≠(d,2):=GQ
  exact {v:=rfl,nx:=by rw[if_pos rfl];rfl,top:=rfl,lp:=rfl,ob:=by simp[ah.setObj,ah.bump,upd,hne.symm,gM,V.cells],o2:=by simp[ah.setObj,ah.bump,upd,gM,nS],o4:=by simp[ah.setObj,ah.bump,upd,Ue,hne2],ot:=fun p h1 h2 h4=>by simp[ah.setObj,ah.bump,upd,h1,h2]}
 |cons y l=>
  have hw:IntKind.wrap .i64 ((((y::l).length:Nat):Int)-1)=(l.length:Int):=by rw[TY aD (by simp at hl⊢;omega)];simp
  have hg:(y::l)[l.length]? =some (nS (y::l)):=by
   unfold nS;rw[List.getLast?_eq_getElem?,List.length_cons,Nat.add_sub_cancel];cases hq:(y::l)[l.length]? with
   |none=>exact absurd (List.getElem?_eq_none_iff.1 hq) aD|some x=>rfl
  have hia:qh Tryz.prog 65 (.ak c (y.v::l.map au.v)) (.int .i64 (l.length:Int))=some (.aY (nS (y::l)).c 0):=by
   show qh Tryz.prog 65 (.ak c ((y::l).map au.v)) _=_;rw[XI,if_pos bD];have e1:lS Tryz.prog 65=some 23:=av
   have e2':dO Tryz.prog 23=some 16:=av
   have e3:aH (y::l) (l.length:Int)=some (nS (y::l)):=by unfold aH;rw[if_pos ⟨RS,by rw[List.length_cons];omega⟩,Int.toNat_natCast];exact hg
   rw[e1];simp only[Option.bind_some,e2',e3];rfl
  have htk:(y.v::l.map au.v).take (l.length:Int).toNat=(y::l).dropLast.map au.v:=by show ((y::l).map au.v).take l.length=_;rw[<-List.map_take,List.dropLast_eq_take,List.length_cons,Nat.add_sub_cancel]
  have hi0:(((((y::l).map au.v).length:Nat):Int)==0)=false:=dz
  refine aF.vD jE (aF.skip (dw.n ?_));refine aF.seq (aF.region ?_);refine ay.a1 ?_;refine ay.a1 ?_;refine ay.a1 ?_;refine ay.a1 ?_;refine ay.a1 ?_;refine ay.a1 ?_;refine ay.a1 ?_;refine ay.a1 ?_;refine ay.a1 ?_;refine ay.o0 bD pK ?_;refine ay.nil (dw.n ?_);refine aF.seq (aF.region ?_);refine ay.a1 ?_;refine ay.a1 ?_;refine ay.a1 ?_;refine ay.a1 ?_;refine ay.a1 ?_;refine ay.a1 ?_;refine ay.a1 ?_;refine ay.a1 ?_;refine ay.a1 ?_;refine ay.o1 (v:=.ak .full ((y::l).dropLast.map au.v)) bD (by intro S;rw[ZV (c:=c) (l:=y.v::l.map au.v) (k:=(l.length:Int)) iK iK iK e6 e2 (CJ (Bu (y::l))) RS (by simp only[List.length_cons,fF];omega),htk];exact Is.rfl) ?_;refine ay.a1 ?_;refine ay.a1 ?_;refine ay.o0 bD pK ?_;refine ay.nil (dw.n ?_);refine aF.seq (aF.region ?_);refine ay.a1 ?_;refine ay.o0 bD pK ?_;refine ay.nil (dw.n (aF.ret ?_));rw[hres];refine oI.one tK xV ?_;have hne:((d,2):aR.Loc)≠(1,30):=GQ
  have Ue:((d,4):aR.Loc)≠(1,30):=GQ
  have hne2:((d,4):aR.Loc)≠(d,2):=GQ
  exact {v:=rfl,nx:=by rw[if_neg aD];rfl,top:=rfl,lp:=rfl,ob:=by simp[ah.setObj,ah.bump,upd,hne.symm,Ue.symm],o2:=by simp[ah.setObj,ah.bump,upd],o4:=by simp[ah.setObj,ah.bump,upd,Ue,hne2],ot:=fun p h1 h2 h4=>by simp[ah.setObj,ah.bump,upd,h1,h2,h4]}
theorem alJ {d s:Nat}{c:Cap}{l:List au}{sh:Bool}{Y:ah}(hd:1<d)(hl:l.length<2^62)(h:Y.dS (1,30) s=some [.ak c (l.map au.v),.bool sh]):
 ∃aB,(bJ E 2).call 147 [.ref (1,30) s 0] d Y=some ((nS l).v,aB)/\ZW Y d s c l sh (nS l).v aB:=by
 obtain⟨n,v,aB,h1,h2⟩:=axN hd hl h;have:=h2.v;subst this;exact⟨aB,axK (fn:=Tryz.f147) (c:=Tryz.f147.body.getD .skip) Tryz.func147 rfl av h1,h2⟩
section
variable {fr:Fr}{Y:ah}
theorem xF {all:List Oper}{base i:Nat}{o:Oper}{os:List Oper}{v:V}{aB:ah}{fs:List FF}{Q:Fr->ah->Prop}(F:dR)(ho:all[i]? =some o)(hw:fM all fr o=some true)(hF:d9 E all fr o true=F)(hop:∀S,Is (opC E S fr Y (base+i) o) (some (v,fr,aB)))(h:jc E all base (i+1) os (fr.put o.dst v) aB (fs++[⟨F,[]⟩]) Q):jc E all base i (o::os) fr Y fs Q:=jc.op ho hw (fun S=>hop S) (by rw[hF];exact h)
theorem Bv {all:List Oper}{d x ty:Nat}{pos:String}{cK:Array Edge}:d9 E all fr ⟨some d,.move (.tmp x),ty,pos,cK,none⟩ true=⟨false,false,[.slot x],[.slot d]⟩:=rfl
theorem axP {all:List Oper}{d x ty:Nat}{pos:String}{cK:Array Edge}:d9 E all fr ⟨some d,.assign (.tmp x),ty,pos,cK,none⟩ true=⟨false,false,[.slot x],[.slot d]⟩:=rfl
theorem axQ {all:List Oper}{d t ty:Nat}{pos:String}{cK:Array Edge}:d9 E all fr ⟨some d,.alloc t,ty,pos,cK,none⟩ true=⟨false,false,[],[.slot d,.obj (fr.d,d)]⟩:=rfl
theorem Ga {all:List Oper}{d t x ty s off:Nat}{pos:String}{cK:Array Edge}{loc:aR.Loc}(hx:fr.tm x= .ref loc s off):d9 E all fr ⟨some d,.load t (.tmp x),ty,pos,cK,none⟩ true=⟨false,false,[.slot x,.obj loc],[.slot d]⟩:=by show (⟨false,false,[Key.slot x]++[]++jm (fr.tm x),[Key.slot d]++[]⟩:dR)=_;rw[hx];rfl
theorem Uf {all:List Oper}{t x y ty s off:Nat}{pos:String}{cK:Array Edge}{loc:aR.Loc}(hx:fr.tm x= .ref loc s off):d9 E all fr ⟨none,.store t (.tmp x) (.tmp y),ty,pos,cK,none⟩ true=⟨false,false,[.slot x,.slot y],[.obj loc]⟩:=by show (⟨false,false,[Key.slot x,Key.slot y]++[]++[],[]++jm (fr.tm x)⟩:dR)=_;rw[hx];rfl
theorem ZX {all:List Oper}{base i:Nat}{d:Option Tmp}{f:Operand}{args:Array Operand}{tys:Array TypeId}{ty:TypeId}{pos:String}{cK:Array Edge}{os:List Oper}{fs:List FF}{Q:Fr->ah->Prop}{g:FuncId}{a b az:List V}{v:V}(F:dR)(hp:Pure E g az v)(hi:all[i]? =some ⟨d,.call ⟨.value f,args,tys⟩,ty,pos,cK,none⟩)(hf:Is (fr.ev E f) (.fn (.func g) a b))(has:Is ((a++args.toList.map (fr.ev E)++b).mapM (bA 20 Y)) (some az))(hc:Is ((a++args.toList.map (fr.ev E)++b).all (fun x=>aQ (er x))||flat v) true)(hF:d9 E all fr ⟨d,.call ⟨.value f,args,tys⟩,ty,pos,cK,none⟩ true=F)(h:jc E all base (i+1) os (fr.put d v) Y (fs++[⟨F,[]⟩]) Q)(hg:E.imp g=false:=by rfl)(eZ:∀d',d=some d'->E.own g d'=false:=by intros;rfl):
 jc E all base i (⟨d,.call ⟨.value f,args,tys⟩,ty,pos,cK,none⟩::os) fr Y fs Q:=jc.call hi rfl rfl rfl hf hg has hp hc (by rw[hF];exact h) eZ
theorem axR {all:List Oper}{d g x t ty:Nat}{pos:String}{cK:Array Edge}(hi:E.imp g=false)(ho:∀d',some d=some d'->E.own g d'=false)(hx:aQ (er (fr.tm x))=true):d9 E all fr ⟨some d,.call ⟨.value (.func g), #[.tmp x], #[t]⟩,ty,pos,cK,none⟩ true=⟨false,false,[.slot x],[.slot d]⟩:=by
 have hf:gB E fr ⟨some d,.call ⟨.value (.func g), #[.tmp x], #[t]⟩,ty,pos,cK,none⟩=nu []:=by
  unfold gB;have h1:lT E fr ⟨some d,.call ⟨.value (.func g), #[.tmp x], #[t]⟩,ty,pos,cK,none⟩ (.func g)=false:=zF (g:=g) (a:=[]) (b:=[]) rfl ho;have h2:fr.ev E (.func g)= .fn (.func g) [] []:=rfl;have h4:(([]++(#[Operand.tmp x].toList.map (fr.ev E))++[]).all fun v=>aQ (er v))=true:=by show (aQ (er (fr.tm x))&& true)=true;rw[hx];rfl
  simp only[h1,h2,hi,h4,if_true,if_false,dI]
 show (⟨(gB E fr _).qj,(gB E fr _).mh,_++(gB E fr _).t,_++(gB E fr _).w⟩:dR)=_;rw[hf];rfl
theorem alK {all:List Oper}{d g x y t u ty:Nat}{pos:String}{cK:Array Edge}(hi:E.imp g=false)(ho:∀d',some d=some d'->E.own g d'=false)(hx:aQ (er (fr.tm x))=true)(hy:aQ (er (fr.tm y))=true):d9 E all fr ⟨some d,.call ⟨.value (.func g), #[.tmp x,.tmp y], #[t,u]⟩,ty,pos,cK,none⟩ true=⟨false,false,[.slot x,.slot y],[.slot d]⟩:=by
 have hf:gB E fr ⟨some d,.call ⟨.value (.func g), #[.tmp x,.tmp y], #[t,u]⟩,ty,pos,cK,none⟩=nu []:=by
  unfold gB;have h1:lT E fr ⟨some d,.call ⟨.value (.func g), #[.tmp x,.tmp y], #[t,u]⟩,ty,pos,cK,none⟩ (.func g)=false:=zF (g:=g) (a:=[]) (b:=[]) rfl ho;have h2:fr.ev E (.func g)= .fn (.func g) [] []:=rfl;have h4:(([]++(#[Operand.tmp x,Operand.tmp y].toList.map (fr.ev E))++[]).all fun v=>aQ (er v))=true:=by show (aQ (er (fr.tm x))&& (aQ (er (fr.tm y))&& true))=true;rw[hx,hy];rfl
  simp only[h1,h2,hi,h4,if_true,if_false,dI]
 show (⟨(gB E fr _).qj,(gB E fr _).mh,_++(gB E fr _).t,_++(gB E fr _).w⟩:dR)=_;rw[hf];rfl
theorem ZY {all:List Oper}{base i:Nat}{o:Oper}{os:List Oper}{fs:List FF}{Q:Fr->ah->Prop}{c:Call}{f:Operand}{g:FuncId}{a b:List V}(F:dR)(ex:List aR.Key)(hi:all[i]? =some o)(hw:fM all fr o=some true)(ho:o.op= .call c)(fT:c.callee= .value f)(hf:fr.ev E f= .fn (.func g) a b)(hg:E.imp g=true)(hF:d9 E all fr o true=F)(hft:F.mh=true)(hp:iW E g (a++c.args.toList.map (fr.ev E)++b) (fr.d+1) Y (fun v aB=>(∀k∈ex,eD k (fr,Y) (fr.put o.dst v,aB))/\jc E all base (i+1) os (fr.put o.dst v) aB (fs++[⟨F,ex⟩]) Q))(eZ:∀d,o.dst=some d->E.own g d=false:=by intros;rfl):jc E all base i (o::os) fr Y fs Q:=
 jc.AY ex hi hw ho fT hf hg (by rw[hF];exact hft) (by rw[hF];exact hp) eZ
theorem imp_mono {E:Env}{f:FuncId}{args:List V}{d:Nat}{Y:ah}{Q Q':V->ah->Prop}(h:iW E f args d Y Q)(hq:∀v Y',Q v Y'->Q' v Y'):iW E f args d Y Q':=
 let ⟨n,v,Y',h1,h2⟩:=h;⟨n,v,Y',h1,hq v Y' h2⟩
theorem axS {all:List Oper}{base i d x s ty:Nat}{c:Cap}{l:List au}{sh:Bool}{pos:String}{cK:Array Edge}{os:List Oper}{fs:List FF}{Q:Fr->ah->Prop}(hd:1<fr.d+1)(hl:l.length<2^62)(hi:all[i]? =some ⟨some d,.call ⟨.value (.func 147), #[.tmp x], #[200]⟩,ty,pos,cK,none⟩)(hx:fr.tm x= .ref (1,30) s 0)(Gb:Y.dS (1,30) s=some [.ak c (l.map au.v),.bool sh])(h:∀aB,ZW Y (fr.d+1) s c l sh (nS l).v aB->jc E all base (i+1) os (fr.put (some d) (nS l).v) aB (fs++[⟨⟨false,false,[.slot x],[.slot d,.obj (1,30),.obj (fr.d+1,2),.obj (fr.d+1,4),.nx]⟩,[]⟩]) Q):
 jc E all base i (⟨some d,.call ⟨.value (.func 147), #[.tmp x], #[200]⟩,ty,pos,cK,none⟩::os) fr Y fs Q:=by
 obtain⟨aB,e1,q1⟩:=alJ hd hl Gb;have hargs:([]:List V)++(#[Operand.tmp x]:Array Operand).toList.map (fr.ev E)++[]=[.ref (1,30) s 0]:=by show [fr.tm x]=_;rw[hx]
 refine jc.axC (g:=147) (a:=[]) (b:=[]) (v:=(nS l).v) (aB:=aB) ⟨false,false,[.slot x],[.slot d,.obj (1,30),.obj (fr.d+1,2),.obj (fr.d+1,4),.nx]⟩ hi rfl rfl rfl rfl rfl 2 rfl rfl ?_ ?_ ?_ ?_ ?_ ?_ (h aB q1)
 .intro k hk;have hk:k∈[Key.slot x]:=hk;exact hk
 .intro k hk;have hk:k∈[Key.slot d]:=hk;rw[jq.1 hk];exact jW ..
 .intro t ht;simp only[jd,Key.slot.injEq,reduceCtorEq,List.not_mem_nil,or_false] at ht;rw[ht]
 .intro hk;simp at hk
 .intro Y' hag;have alL:Y.obj (1,30)=Y'.obj (1,30):=hag (.obj (1,30)) (.inr aD) rfl;have g4:Y.obj (fr.d+1,4)=Y'.obj (fr.d+1,4):=hag (.obj (fr.d+1,4)) (.inr aD) rfl;obtain⟨gn,axT⟩:Y.next=Y'.next/\Y.loops=Y'.loops:=hag .nx (.inr aD) rfl;obtain⟨dn,e2,q2⟩:=alJ hd hl ((uH (Y:=Y) (Y':=Y') alL.symm).trans Gb);refine⟨dn,by rw[hargs];exact e2,fun k hk hs=>?_,fun k hk hs=>?_⟩
  .simp only[jd,List.not_mem_nil,or_false] at hk;rcases hk with rfl|rfl|rfl|rfl|rfl
   .cases hs
   .show aB.obj _=dn.obj _;rw[q1.ob,q2.ob]
   .show aB.obj _=dn.obj _;rw[q1.o2,q2.o2,gn]
   .show aB.obj _=dn.obj _;rw[q1.o4,q2.o4,gn,g4]
   .exact⟨by rw[q1.nx,q2.nx,gn],by rw[q1.lp,q2.lp,axT]⟩
  .simp only[jd,List.not_mem_nil,or_false,not_or] at hk;obtain⟨-,k1,k2,k3,k4⟩:=hk;cases k with
   |slot t=>cases hs|rest=>cases hs|obj p=>exact(q2.ot p (fun e=>k1 (by rw[e])) (fun e=>k2 (by rw[e])) (fun e=>k3 (by rw[e]))).symm
   |top=>exact q2.top.symm|nx=>exact absurd rfl k4
 .rw[hargs];exact e1
end
structure JR (Y:ah)(s5 s11 s12 pX:Nat)(leaf:au)(c:Cap)(l:List au)(sh:Bool):Prop where
 c5:Y.dS (1,5) s5=some leaf.c
 c11:Y.dS (1,11) s11=some [.ref (1,30) pX 0]
 c12:Y.dS (1,12) s12=some [.fn (.func 146) [] [.ref (1,5) s5 0,.ref (1,11) s11 0,.ref (1,12) s12 0]]
 Ug:Y.dS (1,30) pX=some [.ak c (l.map au.v),.bool sh]
theorem JR.mono {Y Y':ah}{s5 s11 s12 pX:Nat}{leaf:au}{c:Cap}{l:List au}{sh:Bool}(h:JR Y s5 s11 s12 pX leaf c l sh)(hs:∀o,Y'.obj (1,o)=Y.obj (1,o)):JR Y' s5 s11 s12 pX leaf c l sh:=
 ⟨(uH (hs _)).trans h.c5,(uH (hs _)).trans h.c11,(uH (hs _)).trans h.c12,(uH (hs _)).trans h.Ug⟩
theorem rO {a b o o':Nat}(h:a≠b):((a,o):aR.Loc)≠(b,o'):=fun e=>h (congrArg Prod.fst e)
theorem axU {node:au×au->Option au}{split:Int->Option Int}(JU:∀a b x,node (a,b)=some x->Pure E 141 [a.v,b.v] x.v)(hsplit:∀p x,split p=some x->Pure E 132 [.int .i64 p] (.int .i64 x)){leaf:au}{s5 s11 s12 pX:Nat}:
 ∀(g:Nat)(i n:Int)(l:List au)(sh:Bool)(r:au×(List au×Bool)),F5 node split leaf g i n l sh=some r->l.length<2^62->∀(dd:Nat)(Y:ah)(c:Cap),1<dd->JR Y s5 s11 s12 pX leaf c l sh->
  iW E 146 [.int .i64 i,.int .i64 n,.ref (1,5) s5 0,.ref (1,11) s11 0,.ref (1,12) s12 0] dd Y (fun v Y'=>v=r.1.v/\(∃c',JR Y' s5 s11 s12 pX leaf c' r.2.1 r.2.2)/\∀a o,a<dd->(a,o)≠((1,30):aR.Loc)->Y'.obj (a,o)=Y.obj (a,o)):=by
 intro g;induction g with
 |zero=>intro i n l sh r h;cases h|succ g ih=>
  intro i n l sh r h hl dd Y c hdd hcs;have hP:E.P=Tryz.prog:=rfl;obtain⟨c5,c11,c12,Ug⟩:=hcs;have hres:Tryz.f146.results.toList=[.cell 7 23]:=rfl;have z1:je Tryz.prog 23=some yO.v:=av
  have axO:∀x:au,gM yO.c 0 x.c=x.c:=fun _=>av
  have f1:∀a b:V,gT Tryz.prog 205 [.fn (.func 146) [] [a,b,.ref (1,12) s12 0]] 0=some (.fn (.func 146) [] [a,b,.ref (1,12) s12 0]):=fun _ _=>rfl;have p1:gT Tryz.prog 200 [.ref (1,30) pX 0] 0=some (.ref (1,30) pX 0):=rfl;refine iW.of (fn:=Tryz.f146) (c:=Tryz.f146.body.getD .skip) Tryz.func146 rfl av ?_;generalize hfr:({d:=dd,aj:=E.aj 146,tm:=fun j=>([.int .i64 i,.int .i64 n,.ref (1,5) s5 0,.ref (1,11) s11 0,.ref (1,12) s12 0]:List V).getD j aP}:Fr)=fr;have a0:fr.tm 0= .int .i64 i:=iL
  have a1:fr.tm 1= .int .i64 n:=iL
  have a2:fr.tm 2= .ref (1,5) s5 0:=iL
  have a3:fr.tm 3= .ref (1,11) s11 0:=iL
  have a4:fr.tm 4= .ref (1,12) s12 0:=iL
  have hd:fr.d=dd:=Ay
  have bT:fr.aj=false:=iL
  clear hfr;have n1:∀o o':Nat,((1,o):aR.Loc)≠(dd,o'):=fun o o'=>rO RS;have q7:rF (1,5) (dd,7)=false:=rfl;refine aF.seq (aF.region ?_);refine ay.a1 ?_;refine ay.nil (dw.n ?_);refine aF.seq (aF.seq (aF.region ?_));refine ay.a1 ?_;refine ay.a1 ?_;refine ay.nil (dw.n ?_);unfold F5 at h;cases hb:n==1 with
  |true=>
   rw[hb,cond_true] at h;cases h;refine aF.uf jE ?_;refine aF.seq (aF.region ?_);refine ay.a1 ?_;refine ay.o0 bD pK ?_;refine ay.nil (dw.n (aF.ret (dw.r ?_)));rw[hres];refine oI.one tK xV ?_;refine⟨rfl,⟨c,JR.mono ⟨c5,c11,c12,Ug⟩ fun o=>?_⟩,fun a o h1 h2=>?_⟩
   .simp[ah.setObj,ah.bump,upd,n1]
   .have:((a,o):aR.Loc)≠(dd,7):=rO RS;simp[ah.setObj,ah.bump,upd,this]
  |false=>
   rw[hb,cond_false,iP] at h;obtain⟨k,hk,h⟩:=h;refine aF.vD jE (aF.skip (dw.n ?_));refine aF.seq (aF.Ub av ?_);refine xF _ rfl rfl Bv dY ?_;refine ZX _ (hsplit _ _ hk) rfl bD jE jE (axR rfl (by intros;rfl) bD) ?_;refine xF _ rfl rfl (Ga (s:=s11) (off:=0) (loc:=(1,11)) a3) dY ?_;refine axS (l:=l) (sh:=sh) (c:=c) (s:=pX) (by show 1<fr.d+1;omega) hl rfl bD xW fun aB q1=>?_;refine xF _ rfl rfl axQ dY ?_;refine xF _ rfl rfl axP dY ?_;refine xF _ rfl rfl (Uf (off:=0) (loc:=(dd,9)) bD) pK ?_;refine jc.nil av (dw.n ?_);have m7:((dd,7):aR.Loc)≠(1,30):=rO RS;have alM:∀o,((dd,7):aR.Loc)≠(fr.d+1,o):=fun o=>rO RS;have m1:∀o o',((1,o):aR.Loc)≠(fr.d+1,o'):=fun o o'=>rO RS;have g7:=(uH (s:=Y.next) (q1.ot (dd,7) m7 (alM 2) (alM 4))).trans (show _=some yO.c by simp only[go_sem,Nat.reduceBEq, *]);have g5:=(uH (s:=s5) (q1.ot (1,5) aG (m1 5 2) (m1 5 4))).trans (show _=some leaf.c by simp only[go_sem,Nat.reduceBEq, *]);have g11:=(uH (s:=s11) (q1.ot (1,11) aG (m1 11 2) (m1 11 4))).trans (show _=some [.ref (1,30) pX 0] by simp only[go_sem,Nat.reduceBEq, *]);have g12:=(uH (s:=s12) (q1.ot (1,12) aG (m1 12 2) (m1 12 4))).trans (show _=some [.fn (.func 146) [] [.ref (1,5) s5 0,.ref (1,11) s11 0,.ref (1,12) s12 0]] by simp only[go_sem,Nat.reduceBEq, *]);have alL:aB.dS (1,30) pX=some [.ak (if l=[] then c else .full) (l.dropLast.map au.v),.bool (sh||l.isEmpty)]:=by unfold ah.dS;rw[q1.ob];simp
   have alN:∀a o,a<dd->(a,o)≠((1,30):aR.Loc)->aB.obj (a,o)=Y.obj (a,o):=fun a o h1 h2=>by rw[q1.ot (a,o) h2 (rO (show a≠fr.d+1 by omega)) (rO (show a≠fr.d+1 by omega))];have:((a,o):aR.Loc)≠(dd,7):=rO RS;simp[ah.setObj,ah.bump,upd,this]
   clear q1;refine aF.seq (aF.seq (aF.region ?_));refine ay.a1 ?_;refine ay.a1 ?_;refine ay.a1 ?_;refine ay.nil (dw.n ?_);cases hik:decide (i<k) with
   |true=>
    rw[hik,cond_true,iP] at h;obtain⟨q,hq,h⟩:=h;rw[aZ] at h;obtain⟨x,hx,rfl⟩:=h;refine aF.uf jE ?_;refine aF.seq (aF.Ub av ?_);refine xF _ rfl rfl (Ga (s:=s12) (off:=0) (loc:=(1,12)) a4) dY ?_;refine xF _ rfl rfl Bv dY ?_;refine xF _ rfl rfl Bv dY ?_;refine ZY (g:=146) (a:=[]) (b:=[.ref (1,5) s5 0,.ref (1,11) s11 0,.ref (1,12) s12 0]) ⟨true,true,[.slot 20,.slot 21,.slot 22],[.slot 23]⟩ [.obj (dd,9)] rfl rfl rfl rfl bD rfl bD rfl ?_;simp only[E9,CB,RX,hd];change iW E 146 [.int .i64 i,.int .i64 k,.ref (1,5) s5 0,.ref (1,11) s11 0,.ref (1,12) s12 0] (dd+1) _ _;refine imp_mono (ih i k _ _ _ hq (by rw[List.length_dropLast];omega) (dd+1) _ (if l=[] then c else .full) RS ⟨?_,?_,?_,?_⟩) ?_
    .exact xW
    .exact xW
    .exact xW
    .exact xW
    rintro v dn ⟨rfl,⟨c',hcs'⟩,hfr⟩;have m9:((dd,9):aR.Loc)≠(1,30):=rO RS;have g9:=(uH (hfr dd 9 RS m9)).trans (sK _ _ _ _);have axV:=(uH (s:=Y.next) (hfr dd 7 RS m7)).trans (show _=some yO.c by simp only[go_sem,Nat.reduceBEq, *]);refine⟨fun k hk=>?_,?_⟩
    .rw[jq.1 hk];exact(hfr dd 9 RS m9).symm
    refine xF _ rfl rfl (Ga (off:=0) (loc:=(dd,9)) bD) dY ?_;refine ZX _ (JU _ _ _ hx) rfl bD jE jE (alK rfl (by intros;rfl) (au.pc _) (au.pc _)) ?_;refine xF _ rfl rfl (Uf (off:=0) (loc:=(dd,7)) bD) pK ?_;refine jc.nil ?_ (dw.n (aF.ret (dw.r ?_)))
    .refine(congrArg (fun m=>Dv m _) (show nZ _=[0,0,0,7,0,31,63] by kernel_rfl)).trans ?_;simp[Dv,JN,List.range,List.range.loop,Key.eq,Key.state,Nat.testBit,aR.rF,aR.Key.eq,aR.Key.state]
    rw[hres];refine oI.one tK xV ?_;refine⟨rfl,⟨c',hcs'.mono fun o=>?_⟩,fun a o h1 h2=>?_⟩
    .simp[ah.setObj,ah.bump,upd,n1]
    .have e1:((a,o):aR.Loc)≠(dd,7):=rO RS;have e2:((a,o):aR.Loc)≠(dd,9):=rO RS;have:=hfr a o RS h2;simp[ah.setObj,ah.bump,upd,e1,e2] at this⊢;rw[this];exact alN a o h1 h2
   |false=>
    rw[hik,cond_false,iP] at h;obtain⟨q,hq,h⟩:=h;rw[aZ] at h;obtain⟨x,hx,rfl⟩:=h;refine aF.vD jE (aF.skip (dw.n ?_));refine aF.seq (aF.Ub av ?_);refine xF _ rfl rfl (Ga (off:=0) (loc:=(dd,9)) bD) dY ?_;refine xF _ rfl rfl (Ga (s:=s12) (off:=0) (loc:=(1,12)) a4) dY ?_;refine xF _ rfl rfl Bv dY ?_;refine xF _ rfl rfl Bv dY ?_;refine xF ⟨false,false,[.slot 28,.slot 29],[.slot 30]⟩ rfl rfl rfl dY ?_;refine xF _ rfl rfl Bv dY ?_;refine xF _ rfl rfl Bv dY ?_;refine xF ⟨false,false,[.slot 31,.slot 32],[.slot 33]⟩ rfl rfl rfl dY ?_;refine ZY (g:=146) (a:=[]) (b:=[.ref (1,5) s5 0,.ref (1,11) s11 0,.ref (1,12) s12 0]) ⟨true,true,[.slot 27,.slot 30,.slot 33],[.slot 34]⟩ [.obj (dd,9)] rfl rfl rfl rfl bD rfl bD rfl ?_;simp only[E9,CB,RX,hd];change iW E 146 [.int .i64 (IntKind.wrap .i64 (i-k)),.int .i64 (IntKind.wrap .i64 (n-k)),.ref (1,5) s5 0,.ref (1,11) s11 0,.ref (1,12) s12 0] (dd+1) _ _;refine imp_mono (ih _ _ _ _ _ hq (by rw[List.length_dropLast];omega) (dd+1) _ (if l=[] then c else .full) RS ⟨?_,?_,?_,?_⟩) ?_
    .exact xW
    .exact xW
    .exact xW
    .exact xW
    rintro v dn ⟨rfl,⟨c',hcs'⟩,hfr⟩;have m9:((dd,9):aR.Loc)≠(1,30):=rO RS;have axV:=(uH (s:=Y.next) (hfr dd 7 RS m7)).trans (show _=some yO.c by simp only[go_sem,Nat.reduceBEq, *]);refine⟨fun k hk=>?_,?_⟩
    .rw[jq.1 hk];exact(hfr dd 9 RS m9).symm
    refine ZX _ (JU _ _ _ hx) rfl bD jE jE (alK rfl (by intros;rfl) (au.pc _) (au.pc _)) ?_;refine xF _ rfl rfl (Uf (off:=0) (loc:=(dd,7)) bD) pK ?_;refine jc.nil ?_ (dw.n (aF.ret ?_))
    .refine(congrArg (fun m=>Dv m _) (show nZ _=[0,0,0,0,12,0,0,96,254,511,1023] by kernel_rfl)).trans ?_;simp[Dv,JN,List.range,List.range.loop,Key.eq,Key.state,Nat.testBit,aR.rF,aR.Key.eq,aR.Key.state]
    rw[hres];refine oI.one tK xV ?_;refine⟨rfl,⟨c',hcs'.mono fun o=>?_⟩,fun a o h1 h2=>?_⟩
    .simp[ah.setObj,ah.bump,upd,n1]
    .have e1:((a,o):aR.Loc)≠(dd,7):=rO RS;have e2:((a,o):aR.Loc)≠(dd,9):=rO RS;have:=hfr a o RS h2;simp[ah.setObj,ah.bump,upd,e1,e2] at this⊢;rw[this];exact alN a o h1 h2
theorem axW {s10 pX:Nat}{c:Cap}{l:List au}{ok sh:Bool}{Y:ah}(h10:Y.dS (1,10) s10=some [.bool ok])(Gb:Y.dS (1,30) pX=some [.ak c (l.map au.v),.bool sh]):
 iW E 145 [.ref (1,30) pX 0,.ref (1,10) s10 0] 2 Y (fun _ aB=>aB.dS (1,10) s10=some [.bool (ok&& !sh&& l.isEmpty)]):=by
 have hP:E.P=Tryz.prog:=rfl;have hmap:(l.map au.v).length=l.length:=fF ..;refine iW.of (fn:=Tryz.f145) (c:=Tryz.f145.body.getD .skip) Tryz.func145 rfl av ?_;generalize hfr:({d:=2,aj:=E.aj 145,tm:=fun j=>([.ref (1,30) pX 0,.ref (1,10) s10 0]:List V).getD j aP}:Fr)=fr;have a0:fr.tm 0= .ref (1,30) pX 0:=iL
 have a1:fr.tm 1= .ref (1,10) s10 0:=iL
 have bT:fr.aj=false:=iL
 clear hfr;have l0:∀c L sh,gT Tryz.prog 65 [V.ak c L,.bool sh] 0=some (.ak c L):=fun _ _ _=>av
 have l1:∀c L sh,gT Tryz.prog 4 [V.ak c L,.bool sh] 1=some (.bool sh):=fun _ _ _=>av
 have l2:∀b:Bool,gT Tryz.prog 4 [V.bool b] 0=some (.bool b):=fun _=>av
 have hres:Tryz.f145.results.toList=[]:=rfl;have hle:((((l.map au.v).length:Nat):Int)==0)=l.isEmpty:=by cases l<;>simp<;>omega
 refine aF.region ?_;refine ay.a1 ?_;refine ay.a1 ?_;refine ay.a1 ?_;refine ay.a1 ?_;refine ay.a1 ?_;cases ok with
 |false=>refine ay.s1 dZ ?_;refine ay.s1 dZ ?_;refine ay.s1 dZ ?_;refine ay.s1 dZ ?_;refine ay.s1 dZ ?_;refine ay.o1 bD uP ?_;refine ay.a1 ?_;refine ay.s1 dZ ?_;refine ay.s1 dZ ?_;refine ay.s1 dZ ?_;refine ay.s1 dZ ?_;refine ay.s1 dZ ?_;refine ay.s1 dZ ?_;refine ay.o1 bD uP ?_;refine ay.a1 ?_;refine ay.o0 bD pK ?_;refine ay.nil ?_;rw[hres];exact⟨[],rfl,LB⟩
 |true=>
  refine ay.o1 dZ dY ?_;refine ay.o1 dZ dY ?_;refine ay.o1 dZ dY ?_;refine ay.o1 dZ dY ?_;refine ay.o1 dZ dY ?_;cases sh with
  |true=>refine ay.o1 bD zf ?_;refine ay.a1 ?_;refine ay.s1 dZ ?_;refine ay.s1 dZ ?_;refine ay.s1 dZ ?_;refine ay.s1 dZ ?_;refine ay.s1 dZ ?_;refine ay.s1 dZ ?_;refine ay.o1 bD uP ?_;refine ay.a1 ?_;refine ay.o0 bD pK ?_;refine ay.nil ?_;rw[hres];exact⟨[],rfl,LB⟩
  |false=>refine ay.o1 bD zf ?_;refine ay.a1 ?_;refine ay.o1 dZ dY ?_;refine ay.o1 dZ dY ?_;refine ay.o1 dZ dY ?_;refine ay.o1 dZ dY ?_;refine ay.o1 dZ dY ?_;refine ay.o1 dZ dY ?_;refine ay.o1 bD zf ?_;refine ay.a1 ?_;refine ay.o0 bD pK ?_;refine ay.nil ?_;rw[hres];rw[hmap] at hle;exact⟨[],rfl,by simp only[go_sem,Nat.reduceBEq, *];rw[<-hle];rfl⟩
theorem vU.r {E:Env}{fr:Fr}{Y:ah}{b:Code}{Q:Ex->Fr->ah->vS->Prop}(h:Q .ret fr Y none):vU E b Q .ret fr Y:=h
theorem axX {E:Env}{S:iV}{fr:Fr}{Y:ah}{ops:List Oper}{base:Nat}{o:Oper}{v:V}(h0:ops[0]? =some o)(hw:fM ops fr o=some true)(hop:Is (opC E S fr Y (base+0) o) (some (v,fr,Y))):opsL E S ops base (List.range 1) fr Y=some (fr.put o.dst v,Y):=by show (jr E S ops base 0 fr Y).bind (fun (fr,Y)=>opsL E S ops base [] fr Y)=_;rw[zZ h0 hw hop];rfl
theorem alO {E:Env}{S:iV}{fr:Fr}{Y:ah}{st ty:Nat}{pos:String}{cK:Array Edge}{gd:Option (Nat×Bool)}{d:Option Nat}{f:FuncId}{a b:List Operand}:opC E S fr Y st ⟨d,.makeFunc (.func f) a.toArray b.toArray,ty,pos,cK,gd⟩=some (.fn (.func f) (a.map (fr.ev E)) (b.map (fr.ev E)),fr,Y):=rfl
theorem axY {E:Env}{Y:ah}{f:FuncId}{args:List V}{d:Nat}{fn:Func}{c:Code}{R:V->ah->Prop}(hf:E.P.funcs[f]? =some fn)(hb:fn.body=some c)(hok:(decide (args.length<=fn.ntmps)&& iI fn.ntmps c&& kr c)=true)(h:uI E c {d:=d,aj:=E.aj f,tm:=fun i=>args.getD i aP} Y (fun e bK aB q=>(e= .normal\/e= .ret)/\q=none/\∃vs,fn.results.toList.mapM (jF E bK aB)=some vs/\R (Dx vs) aB)):
 ∃m v Y',F9 E (bJ E m) (bJ E (m+1)) f args d Y=some (v,Y')/\R v Y':=by
 obtain⟨n,e,bK,aB,q,h1,he,rfl,vs,h3,h4⟩:=h;have hok':args.length<=fn.ntmps/\iI fn.ntmps c/\kr c=true:=by simp only[bf,decide_eq_true_eq] at hok;exact⟨hok.1.1,hok.1.2,hok.2⟩
 refine⟨n,Dx vs,aB,?_,h4⟩;unfold F9;rw[hf,Option.bind_some,hb,Option.bind_some,if_pos hok',h1,Option.bind_some];rcases he with rfl|rfl
 .dsimp only;rw[Option.bind_some,h3];rfl
 .dsimp only;rw[Option.bind_some,h3];rfl
theorem alP (x y:au):sI Tryz.prog .eql 23 x.v y.v=some (.bool (yP x y)):=by cases x;cases y;kernel_rfl
theorem axZ {node:au×au->Option au}{split:Int->Option Int}(JU:∀a b x,node (a,b)=some x->Pure E 141 [a.v,b.v] x.v)(hsplit:∀p x,split p=some x->Pure E 132 [.int .i64 p] (.int .i64 x)){leaf root:au}{i n:Int}{l:List au}{b:Bool}(hl:l.length<2^62)(h:NP node split leaf i n l root=some b):
 ∃m v Y',F9 E (bJ E m) (bJ E (m+1)) 100 [leaf.v,.int .i64 i,.int .i64 n,lv au.v l,root.v] 1 ah.init=some (v,Y')/\v= .bool b:=by
 have hP:E.P=Tryz.prog:=rfl;have hres:Tryz.f100.results.toList=[.cell 10 4]:=rfl;have l2:∀b:Bool,gT Tryz.prog 4 [V.bool b] 0=some (.bool b):=fun _=>av
 have z4:je Tryz.prog 4=some (.bool false):=av
 have aG9:tN E 23 (some 5)=false:=rfl;have aHa:tN E 23 (some 9)=false:=rfl;cases he:(decide (n<1)||decide (n>1099511627776)||decide (i<0)||decide (i>=n)) with
 |true=>
  unfold NP at h;rw[he,cond_true] at h;cases h;refine axY (fn:=Tryz.f100) (c:=Tryz.f100.body.getD .skip) (R:=fun v _=>v= .bool false) Tryz.func100 rfl av ?_;generalize hfr:({d:=1,aj:=E.aj 100,tm:=fun j=>([leaf.v,.int .i64 i,.int .i64 n,lv au.v l,root.v]:List V).getD j aP}:Fr)=fr;have a0:fr.tm 0=leaf.v:=iL
  have a1:fr.tm 1= .int .i64 i:=iL
  have a2:fr.tm 2= .int .i64 n:=iL
  have a3:fr.tm 3=lv au.v l:=iL
  have a4:fr.tm 4=root.v:=iL
  have hd:fr.d=1:=Ay
  have bT:fr.aj=false:=iL
  clear hfr;refine uI.seq (aF.region ?_);refine ay.a1 ?_;refine ay.a1 ?_;refine ay.a1 ?_;refine ay.nil (vU.n ?_);refine uI.seq (aF.seq (aF.region ?_));cases h1:decide (n<1) with
  |true=>refine ay.a1 ?_;refine ay.a1 ?_;refine ay.a1 ?_;refine ay.s1 dZ ?_;refine ay.s1 dZ ?_;refine ay.o1 bD zf ?_;refine ay.a1 ?_;refine ay.s1 dZ ?_;refine ay.s1 dZ ?_;refine ay.o1 bD zf ?_;refine ay.a1 ?_;refine ay.s1 dZ ?_;refine ay.s1 dZ ?_;refine ay.s1 dZ ?_;refine ay.o1 bD zf ?_;refine ay.nil (dw.n (aF.uf jE (aF.seq (aF.region ?_))));refine ay.o0 bD pK ?_;refine ay.nil (dw.n (aF.ret (vU.r ?_)));refine⟨.inr rfl,rfl,[.bool false],?_,rfl⟩;rw[hres];simp only[iM,List.mapM_nil,jF,go_sem,Nat.reduceBEq, *];rfl
  |false=>
   cases h2:decide (n>1099511627776) with
   |true=>refine ay.a1 ?_;refine ay.a1 ?_;refine ay.a1 ?_;refine ay.o1 dZ dY ?_;refine ay.o1 dZ dY ?_;refine ay.o1 bD uP ?_;refine ay.a1 ?_;refine ay.s1 dZ ?_;refine ay.s1 dZ ?_;refine ay.o1 bD zf ?_;refine ay.a1 ?_;refine ay.s1 dZ ?_;refine ay.s1 dZ ?_;refine ay.s1 dZ ?_;refine ay.o1 bD zf ?_;refine ay.nil (dw.n (aF.uf jE (aF.seq (aF.region ?_))));refine ay.o0 bD pK ?_;refine ay.nil (dw.n (aF.ret (vU.r ?_)));refine⟨.inr rfl,rfl,[.bool false],?_,rfl⟩;rw[hres];simp only[iM,List.mapM_nil,jF,go_sem,Nat.reduceBEq, *];rfl
   |false=>
    cases h3:decide (i<0) with
    |true=>refine ay.a1 ?_;refine ay.a1 ?_;refine ay.a1 ?_;refine ay.o1 dZ dY ?_;refine ay.o1 dZ dY ?_;refine ay.o1 bD uP ?_;refine ay.a1 ?_;refine ay.o1 dZ dY ?_;refine ay.o1 dZ dY ?_;refine ay.o1 bD uP ?_;refine ay.a1 ?_;refine ay.s1 dZ ?_;refine ay.s1 dZ ?_;refine ay.s1 dZ ?_;refine ay.o1 bD zf ?_;refine ay.nil (dw.n (aF.uf jE (aF.seq (aF.region ?_))));refine ay.o0 bD pK ?_;refine ay.nil (dw.n (aF.ret (vU.r ?_)));refine⟨.inr rfl,rfl,[.bool false],?_,rfl⟩;rw[hres];simp only[iM,List.mapM_nil,jF,go_sem,Nat.reduceBEq, *];rfl
    |false=>have h4:decide (i>=n)=true:=(by rw[h1,h2,h3] at he;simpa using he);refine ay.a1 ?_;refine ay.a1 ?_;refine ay.a1 ?_;refine ay.o1 dZ dY ?_;refine ay.o1 dZ dY ?_;refine ay.o1 bD uP ?_;refine ay.a1 ?_;refine ay.o1 dZ dY ?_;refine ay.o1 dZ dY ?_;refine ay.o1 bD uP ?_;refine ay.a1 ?_;refine ay.o1 dZ dY ?_;refine ay.o1 dZ dY ?_;refine ay.o1 dZ dY ?_;refine ay.o1 bD uP ?_;refine ay.nil (dw.n (aF.uf jE (aF.seq (aF.region ?_))));refine ay.o0 bD pK ?_;refine ay.nil (dw.n (aF.ret (vU.r ?_)));refine⟨.inr rfl,rfl,[.bool false],?_,rfl⟩;rw[hres];simp only[iM,List.mapM_nil,jF,go_sem,Nat.reduceBEq, *];rfl
 |false=>
  unfold NP at h;rw[he,cond_false,aZ] at h;obtain⟨r,hr,rfl⟩:=h;have h1:decide (n<1)=false:=by cases h:decide (n<1)<;>rw[h] at he<;>simp_all
  have h2:decide (n>1099511627776)=false:=by cases h:decide (n>1099511627776)<;>rw[h] at he<;>simp_all
  have h3:decide (i<0)=false:=by cases h:decide (i<0)<;>rw[h] at he<;>simp_all
  have h4:decide (i>=n)=false:=by cases h:decide (i>=n)<;>rw[h] at he<;>simp_all
  have aHb:tN E 202 (some 30)=false:=rfl;have aHc:je Tryz.prog 200=some .gY:=av
  have aHd:je Tryz.prog 205=some .gL:=av
  have aHe:dO Tryz.prog 200=some 1:=av
  have aHf:dO Tryz.prog 205=some 1:=av
  have aHg:dA V.gY.cells=true:=rfl;have aHh:dA V.gL.cells=true:=rfl;have aHi:∀x:V,gM V.gY.cells 0 [x]=[x]:=fun _=>rfl;have aHj:∀x:V,gM V.gL.cells 0 [x]=[x]:=fun _=>rfl;have lP:V.gY.cells.length=1:=rfl;have aHk:V.gL.cells.length=1:=rfl;have eqd:=alP r.1 root;have aHl:∀x y:V,gM [y] 0 [x]=[x]:=fun _ _=>rfl;have b2:R7 E 202 [(0,lv au.v l)]=some [lv au.v l,.bool false]:=av
  have f1:∀a b c:V,gT Tryz.prog 205 [.fn (.func 146) [] [a,b,c]] 0=some (.fn (.func 146) [] [a,b,c]):=fun _ _ _=>rfl;have p1:∀s,gT Tryz.prog 200 [.ref (1,30) s 0] 0=some (.ref (1,30) s 0):=fun _=>rfl;refine axL (fn:=Tryz.f100) (c:=Tryz.f100.body.getD .skip) (R:=fun v _=>v= .bool (yP r.1 root&& !r.2.2&& r.2.1.isEmpty)) Tryz.func100 rfl av ?_;generalize hfr:({d:=1,aj:=E.aj 100,tm:=fun j=>([leaf.v,.int .i64 i,.int .i64 n,lv au.v l,root.v]:List V).getD j aP}:Fr)=fr;have a0:fr.tm 0=leaf.v:=iL
  have a1:fr.tm 1= .int .i64 i:=iL
  have a2:fr.tm 2= .int .i64 n:=iL
  have a3:fr.tm 3=lv au.v l:=iL
  have a4:fr.tm 4=root.v:=iL
  have hd:fr.d=1:=Ay
  have bT:fr.aj=false:=iL
  clear hfr;refine uI.seq (aF.region ?_);refine ay.a1 ?_;refine ay.a1 ?_;refine ay.a1 ?_;refine ay.nil (vU.n ?_);refine uI.seq (aF.seq (aF.region ?_));refine ay.a1 ?_;refine ay.a1 ?_;refine ay.a1 ?_;refine ay.o1 dZ dY ?_;refine ay.o1 dZ dY ?_;refine ay.o1 bD uP ?_;refine ay.a1 ?_;refine ay.o1 dZ dY ?_;refine ay.o1 dZ dY ?_;refine ay.o1 bD uP ?_;refine ay.a1 ?_;refine ay.o1 dZ dY ?_;refine ay.o1 dZ dY ?_;refine ay.o1 dZ dY ?_;refine ay.o1 bD uP ?_;refine ay.nil (dw.n (aF.vD jE (aF.skip (vU.n ?_))));refine uI.seq (aF.region ?_);refine ay.a1 ?_;refine ay.a1 ?_;refine ay.a1 ?_;refine ay.a1 ?_;refine ay.o0 bD pK ?_;refine ay.nil (vU.n ?_);refine uI.defer (k:=1) (m:=0) rfl ⟨rfl,rfl⟩ (axX rfl rfl jE) bD ?_;refine aF.seq (aF.region ?_);refine ay.a1 ?_;refine ay.nil (dw.n ?_);refine aF.seq (aF.region ?_);refine ay.o1 bD (by intro S;rw[alO (a:=[]) (b:=[.tmp 5,.tmp 11,.tmp 12])];simp only[iH,List.map_nil,go_sem,Nat.reduceBEq,Nat.reduceAdd, *];exact Is.rfl) ?_;refine ay.o0 bD pK ?_;refine ay.nil (dw.n ?_);refine aF.seq (aF.Ub av ?_);refine xF _ rfl rfl (Ga (off:=0) (loc:=(1,12)) bD) dY ?_;refine xF _ rfl rfl Bv dY ?_;refine xF _ rfl rfl Bv dY ?_;refine ZY (g:=146) (a:=[]) ⟨true,true,[.slot 33,.slot 34,.slot 35],[.slot 36]⟩ [.obj (1,9)] rfl rfl rfl rfl bD rfl bD rfl ?_;simp only[E9,CB,RX,hd];change iW E 146 [.int .i64 i,.int .i64 n,.ref (1,5) _ 0,.ref (1,11) _ 0,.ref (1,12) _ 0] 2 _ _;refine imp_mono (axU (pX:=20) JU hsplit _ i n l false r hr hl 2 _ .sh aG ⟨av,av,av,av⟩) ?_;rintro v dn ⟨rfl,⟨c',hcs'⟩,hfr⟩;have g9:=(uH (s:=ah.init.next+1) (hfr 1 9 aG aG)).trans (show _=some root.c by kernel_rfl);have g10:=(uH (s:=ah.init.next+2) (hfr 1 10 aG aG)).trans (show _=some [.bool false] by kernel_rfl);refine⟨fun k hk=>?_,?_⟩
  .rw[jq.1 hk];exact(hfr 1 9 aG aG).symm
  refine xF _ rfl rfl (Ga (off:=0) (loc:=(1,9)) bD) dY ?_;refine xF (v:=.bool (yP r.1 root)) ⟨false,false,[.slot 36,.slot 37],[.slot 38]⟩ rfl rfl rfl (by intro S;rw[aiG];exact congrArg (Option.map fun v=>(v,_,_)) (alP r.1 root)) ?_;refine xF _ rfl rfl (Uf (off:=0) (loc:=(1,10)) bD) pK ?_;refine jc.nil av (dw.n (aF.ret ?_));refine⟨.inr rfl,145,[.ref (1,30) 20 0,.ref (1,10) (ah.init.next+2) 0],rfl,av,imp_mono (axW (c:=c') (l:=r.2.1) (ok:=yP r.1 root) (sh:=r.2.2) ?_ ?_) fun _ qN h3=>⟨[.bool (yP r.1 root&& !r.2.2&& r.2.1.isEmpty)],?_,rfl⟩⟩
  .simp only[go_sem,Nat.reduceBEq, *]
  .exact(Fa _ _ _ _ rfl).trans hcs'.Ug
  .rw[hres];simp only[iM,List.mapM_nil,jF,go_sem,Nat.reduceBEq,h3, *];rfl
end Sh
end
section
namespace aR
open Go Go.RowKit
theorem ax0 {E:Env}{call:FuncId->List V->Nat->ah->Option (V×ah)}(hS:EZ E call){f:FuncId}{args:List V}{v v0:V}{aB:ah}(hc:call f args 1 ah.init=some (v0,aB))(h:bA 20 aB v0=some v):rJ E f args v:=by
 obtain⟨_,hb,hs⟩:=hS _ _ _ _ _ _ hc;refine⟨hb,fun I IM w dQ hl hr=>?_⟩;have hr':RelA (bB.lend I IM) ah.init.top w args dQ:=hr;refine(hs none w.heap.size (bB.lend I IM) w dQ (Xa hl) (iR _) (fun s hs=>hs.elim) hr').mono ?_;intro e w' hp;cases e with
 |returned c=>
  obtain⟨K1,r1,s1,_,st⟩:=hp;refine⟨st.below,?_⟩;have:=W9 (T':=fun _=>0) s1 20 v0 v c r1 h;refine this.Ms (fun b o hi=>⟨⟨?_,hi.2⟩,rfl⟩) (fun b hi=>⟨⟨?_,hi.2⟩,rfl⟩)
  .rcases hi.1 with h1|h1
   .exact st.zy b o h1
   .exact .inr h1
  .rcases hi.1 with h1|h1
   .exact st.zA b h1
   .exact .inr h1
 |panicked ch=>exact hp.elim|outgrown=>exact hp.elim
end aR
end
