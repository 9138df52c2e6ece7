import Derived.Test.YtdcnajadcbedkaaGreatDoorF1016
set_option linter.all false
section
open Go Go.Proofs aQ
namespace Sh
set_option maxRecDepth 100000
set_option maxHeartbeats 1000000
section
variable {E:Env}{S:iW}{fr:Fr}{Y:ah}{st ty:Nat}{pos:String}{cu:Array Edge}{gd:Option (Nat×Bool)}
theorem awV {d:Option Nat}(x:Operand):opC E S fr Y st ⟨d,.nilCheck x,ty,pos,cu,gd⟩=(match fr.ev E x with
 |.ref loc s off=>some (.ref loc s off,fr,Y)|.aW cs off=>some (.aW cs off,fr,Y)|.fn (.func f) a b=>some (.fn (.func f) a b,fr,Y)|_=>none):=by
 simp only[opC,dK];cases fr.ev E x with
 |fn f a b=>cases f<;>rfl|_=>rfl
attribute [go_sem] awV
theorem Zu {d:Option Nat}{x h m:Operand}{t e:TypeId}{sz:Nat}{c:Cap}{l:List V}{k:Int}(hx:fr.ev E x= .ak c l)(hh:fr.ev E h= .int .i64 k)(hm:fr.ev E m= .int .i64 k)(hu:E.P.underlying t=some (.slice e))(hs:dM E.P e=some sz)(hz:oK sz l=true)(h0:0<=k)(h1:k<=(l.length:Nat)):
 opC E S fr Y st ⟨d,.slice t x none (some h) (some m),ty,pos,cu,gd⟩=some (.ak .full (l.take k.toNat),fr,Y):=by
 show Option.map _ ((lF E.P Y t (fr.ev E x) none (some (fr.ev E h)) (some (fr.ev E m))).map fun v=>(v,Y))=_;rw[hx,hh,hm];unfold lF;rw[hu];dsimp only;rw[hs,Option.bind_some];have:jE l.length l.length none (some (.int .i64 k)) (some (.int .i64 k))=some (0,k.toNat,k.toNat):=by unfold jE bnd pU;simp only[Option.bind_some];rw[if_pos ⟨h0,h1⟩,Option.bind_some];rw[if_pos ⟨h0,RS⟩,Option.bind_some]
 rw[this,Option.bind_some,if_pos hz,if_neg aD];simp
end
structure Zv (Y:ah)(d s:Nat)(c:Cap)(l:List au)(sh:Bool)(v:V)(aB:ah):Prop where
 v:v=(rA l).v
 nx:aB.next=Y.next+(if l=[] then 15 else 34)
 top:aB.top=Y.top
 lp:aB.loops=Y.loops
 ob:aB.obj (1,30)=some (s,.cells [.ak (if l=[] then c else .full) (l.dropLast.map au.v),.bool (sh||l.isEmpty)])
 o2:aB.obj (d,2)=some (Y.next,.cells (rA l).c)
 o4:aB.obj (d,4)=if l=[] then Y.obj (d,4) else some (Y.next+17,.cells (rA l).c)
 ot:∀p,p≠(1,30)->p≠(d,2)->p≠(d,4)->aB.obj p=Y.obj p
theorem Bn (l:List au):wS 16 (l.map au.v)=true:=atm (f:=au.v) (sz:=16) (fun x=>⟨by rw[au.cells];exact au.len x,by rw[au.cells];exact au.one x⟩) l
theorem awW {d s:Nat}{c:Cap}{l:List au}{sh:Bool}{Y:ah}(hd:1<d)(hl:l.length<2^62)(h:Y.dQ (1,30) s=some [.ak c (l.map au.v),.bool sh]):
 iX E 147 [.ref (1,30) s 0] d Y (Zv Y d s c l sh):=by
 have hP:E.P=Tryz.prog:=rfl;have hmap:(l.map au.v).length=l.length:=fH ..;have e2:dM E.P 23=some 16:=av
 have e6:E.P.underlying 65=some (.slice 23):=av
 refine iX.of (fn:=Tryz.f147) (c:=Tryz.f147.body.getD .skip) Tryz.func147 rfl av ?_;generalize hfr:({d:=d,aj:=E.aj 147,tm:=fun j=>([.ref (1,30) s 0]:List V).getD j aP}:Fr)=fr;have a0:fr.tm 0= .ref (1,30) s 0:=iM
 have hd':fr.d=d:=Al
 have bQ:fr.aj=false:=iM
 clear hfr;have z1:jc Tryz.prog 23=some vV.v:=av
 have l0:∀c L sh,gT Tryz.prog 65 [V.ak c L,.bool sh] 0=some (.ak c L):=fun _ _ _=>av
 have l1:∀c L sh,gT Tryz.prog 4 [V.ak c L,.bool sh] 1=some (.bool sh):=fun _ _ _=>av
 have b0:RJ E 23 []=some vV.c:=av
 have awX:∀x:au,gM vV.c 0 x.c=x.c:=fun _=>av
 have sp1:∀(c c2:Cap)(L L2:List V)(sh:Bool),gM [V.ak c L,V.bool sh] 0 [V.ak c2 L2]=[V.ak c2 L2,V.bool sh]:=fun _ _ _ _ _=>rfl;have sp2:∀(c:Cap)(L:List V)(sh b:Bool),gM [V.ak c L,V.bool sh] 1 [V.bool b]=[V.ak c L,V.bool b]:=fun _ _ _ _=>rfl;have hres:Tryz.f147.results.toList=[.cell 2 23]:=rfl;refine aF.seq (aF.region ?_);refine ay.a1 ?_;refine ay.nil (dh.n ?_);refine aF.seq (aF.region ?_);refine ay.a1 ?_;refine ay.a1 ?_;refine ay.a1 ?_;refine ay.a1 ?_;refine ay.a1 ?_;refine ay.a1 ?_;refine ay.nil (dh.n ?_);refine aF.seq (aF.seq (aF.region ?_));refine ay.a1 ?_;refine ay.a1 ?_;refine ay.nil (dh.n ?_);cases l with
 |nil=>
  refine aF.uw (by exact Is.rfl) ?_;refine aF.seq (aF.region ?_);refine ay.a1 ?_;refine ay.a1 ?_;refine ay.a1 ?_;refine ay.o0 bD pO ?_;refine ay.nil (dh.n ?_);refine aF.seq (aF.region ?_);refine ay.a1 ?_;refine ay.o0 bD pO ?_;refine ay.nil (dh.n (aF.ret (dh.r ?_)));rw[hres];refine oN.one tT xS ?_;have hne:((d,2):aQ.Loc)≠(1,30):=Gs
  have TP:((d,4):aQ.Loc)≠(1,30):=Gs
  have hne2:((d,4):aQ.Loc)≠(d,2):=Gs
  exact {v:=rfl,nx:=by rw[if_pos rfl];rfl,top:=rfl,lp:=rfl,ob:=by simp[ah.setObj,ah.bump,upd,hne.symm,gM,V.cells],o2:=by simp[ah.setObj,ah.bump,upd,gM,rA],o4:=by simp[ah.setObj,ah.bump,upd,TP,hne2],ot:=fun p h1 h2 h4=>by simp[ah.setObj,ah.bump,upd,h1,h2]}
 |cons y l=>
  have hw:IntKind.wrap .i64 ((((y::l).length:Nat):Int)-1)=(l.length:Int):=by rw[TI aD (by simp at hl⊢;omega)];simp
  have hg:(y::l)[l.length]? =some (rA (y::l)):=by
   unfold rA;rw[List.getLast?_eq_getElem?,List.length_cons,Nat.add_sub_cancel];cases hq:(y::l)[l.length]? with
   |none=>exact absurd (List.getElem?_eq_none_iff.1 hq) aD|some x=>rfl
  have hia:qp Tryz.prog 65 (.ak c (y.v::l.map au.v)) (.int .i64 (l.length:Int))=some (.aW (rA (y::l)).c 0):=by
   show qp Tryz.prog 65 (.ak c ((y::l).map au.v)) _=_;rw[Xl,if_pos bD];have e1:lT Tryz.prog 65=some 23:=av
   have e2':dM Tryz.prog 23=some 16:=av
   have e3:aG (y::l) (l.length:Int)=some (rA (y::l)):=by unfold aG;rw[if_pos ⟨RS,by rw[List.length_cons];omega⟩,Int.toNat_natCast];exact hg
   rw[e1];simp only[Option.bind_some,e2',e3];rfl
  have htk:(y.v::l.map au.v).take (l.length:Int).toNat=(y::l).dropLast.map au.v:=by show ((y::l).map au.v).take l.length=_;rw[<-List.map_take,List.dropLast_eq_take,List.length_cons,Nat.add_sub_cancel]
  have hi0:(((((y::l).map au.v).length:Nat):Int)==0)=false:=dw
  refine aF.vG jB (aF.skip (dh.n ?_));refine aF.seq (aF.region ?_);refine ay.a1 ?_;refine ay.a1 ?_;refine ay.a1 ?_;refine ay.a1 ?_;refine ay.a1 ?_;refine ay.a1 ?_;refine ay.a1 ?_;refine ay.a1 ?_;refine ay.a1 ?_;refine ay.o0 bD pO ?_;refine ay.nil (dh.n ?_);refine aF.seq (aF.region ?_);refine ay.a1 ?_;refine ay.a1 ?_;refine ay.a1 ?_;refine ay.a1 ?_;refine ay.a1 ?_;refine ay.a1 ?_;refine ay.a1 ?_;refine ay.a1 ?_;refine ay.a1 ?_;refine ay.o1 (v:=.ak .full ((y::l).dropLast.map au.v)) bD (by intro S;rw[Zu (c:=c) (l:=y.v::l.map au.v) (k:=(l.length:Int)) iL iL iL e6 e2 (Cu (Bn (y::l))) RS (by simp only[List.length_cons,fH];omega),htk];exact Is.rfl) ?_;refine ay.a1 ?_;refine ay.a1 ?_;refine ay.o0 bD pO ?_;refine ay.nil (dh.n ?_);refine aF.seq (aF.region ?_);refine ay.a1 ?_;refine ay.o0 bD pO ?_;refine ay.nil (dh.n (aF.ret ?_));rw[hres];refine oN.one tT xS ?_;have hne:((d,2):aQ.Loc)≠(1,30):=Gs
  have TP:((d,4):aQ.Loc)≠(1,30):=Gs
  have hne2:((d,4):aQ.Loc)≠(d,2):=Gs
  exact {v:=rfl,nx:=by rw[if_neg aD];rfl,top:=rfl,lp:=rfl,ob:=by simp[ah.setObj,ah.bump,upd,hne.symm,TP.symm],o2:=by simp[ah.setObj,ah.bump,upd],o4:=by simp[ah.setObj,ah.bump,upd,TP,hne2],ot:=fun p h1 h2 h4=>by simp[ah.setObj,ah.bump,upd,h1,h2,h4]}
theorem akS {d s:Nat}{c:Cap}{l:List au}{sh:Bool}{Y:ah}(hd:1<d)(hl:l.length<2^62)(h:Y.dQ (1,30) s=some [.ak c (l.map au.v),.bool sh]):
 ∃aB,(bI E 2).call 147 [.ref (1,30) s 0] d Y=some ((rA l).v,aB)/\Zv Y d s c l sh (rA l).v aB:=by
 obtain⟨n,v,aB,h1,h2⟩:=awW hd hl h;have:=h2.v;subst this;exact⟨aB,awT (fn:=Tryz.f147) (c:=Tryz.f147.body.getD .skip) Tryz.func147 rfl av h1,h2⟩
section
variable {fr:Fr}{Y:ah}
theorem xF {all:List Oper}{base i:Nat}{o:Oper}{os:List Oper}{v:V}{aB:ah}{fs:List FF}{Q:Fr->ah->Prop}(F:dP)(ho:all[i]? =some o)(hw:fJ all fr o=some true)(hF:d9 E all fr o true=F)(hop:∀S,Is (opC E S fr Y (base+i) o) (some (v,fr,aB)))(h:iY E all base (i+1) os (fr.put o.dst v) aB (fs++[⟨F,[]⟩]) Q):iY E all base i (o::os) fr Y fs Q:=iY.op ho hw (fun S=>hop S) (by rw[hF];exact h)
theorem Bo {all:List Oper}{d x ty:Nat}{pos:String}{cu:Array Edge}:d9 E all fr ⟨some d,.move (.tmp x),ty,pos,cu,none⟩ true=⟨false,false,[.slot x],[.slot d]⟩:=rfl
theorem awY {all:List Oper}{d x ty:Nat}{pos:String}{cu:Array Edge}:d9 E all fr ⟨some d,.assign (.tmp x),ty,pos,cu,none⟩ true=⟨false,false,[.slot x],[.slot d]⟩:=rfl
theorem awZ {all:List Oper}{d t ty:Nat}{pos:String}{cu:Array Edge}:d9 E all fr ⟨some d,.alloc t,ty,pos,cu,none⟩ true=⟨false,false,[],[.slot d,.obj (fr.d,d)]⟩:=rfl
theorem FR {all:List Oper}{d t x ty s off:Nat}{pos:String}{cu:Array Edge}{loc:aQ.Loc}(hx:fr.tm x= .ref loc s off):d9 E all fr ⟨some d,.load t (.tmp x),ty,pos,cu,none⟩ true=⟨false,false,[.slot x,.obj loc],[.slot d]⟩:=by show (⟨false,false,[Key.slot x]++[]++jh (fr.tm x),[Key.slot d]++[]⟩:dP)=_;rw[hx];rfl
theorem TQ {all:List Oper}{t x y ty s off:Nat}{pos:String}{cu:Array Edge}{loc:aQ.Loc}(hx:fr.tm x= .ref loc s off):d9 E all fr ⟨none,.store t (.tmp x) (.tmp y),ty,pos,cu,none⟩ true=⟨false,false,[.slot x,.slot y],[.obj loc]⟩:=by show (⟨false,false,[Key.slot x,Key.slot y]++[]++[],[]++jh (fr.tm x)⟩:dP)=_;rw[hx];rfl
theorem Zw {all:List Oper}{base i:Nat}{d:Option Tmp}{f:Operand}{args:Array Operand}{tys:Array TypeId}{ty:TypeId}{pos:String}{cu:Array Edge}{os:List Oper}{fs:List FF}{Q:Fr->ah->Prop}{g:FuncId}{a b az:List V}{v:V}(F:dP)(hp:Pure E g az v)(hi:all[i]? =some ⟨d,.call ⟨.value f,args,tys⟩,ty,pos,cu,none⟩)(hf:Is (fr.ev E f) (.fn (.func g) a b))(has:Is ((a++args.toList.map (fr.ev E)++b).mapM (bq 20 Y)) (some az))(hc:Is ((a++args.toList.map (fr.ev E)++b).all (fun x=>aR (er x))||flat v) true)(hF:d9 E all fr ⟨d,.call ⟨.value f,args,tys⟩,ty,pos,cu,none⟩ true=F)(h:iY E all base (i+1) os (fr.put d v) Y (fs++[⟨F,[]⟩]) Q)(hg:E.imp g=false:=by rfl)(eX:∀d',d=some d'->E.own g d'=false:=by intros;rfl):
 iY E all base i (⟨d,.call ⟨.value f,args,tys⟩,ty,pos,cu,none⟩::os) fr Y fs Q:=iY.call hi rfl rfl rfl hf hg has hp hc (by rw[hF];exact h) eX
theorem aw0 {all:List Oper}{d g x t ty:Nat}{pos:String}{cu:Array Edge}(hi:E.imp g=false)(ho:∀d',some d=some d'->E.own g d'=false)(hx:aR (er (fr.tm x))=true):d9 E all fr ⟨some d,.call ⟨.value (.func g), #[.tmp x], #[t]⟩,ty,pos,cu,none⟩ true=⟨false,false,[.slot x],[.slot d]⟩:=by
 have hf:gB E fr ⟨some d,.call ⟨.value (.func g), #[.tmp x], #[t]⟩,ty,pos,cu,none⟩=nA []:=by
  unfold gB;have h1:lU E fr ⟨some d,.call ⟨.value (.func g), #[.tmp x], #[t]⟩,ty,pos,cu,none⟩ (.func g)=false:=zx (g:=g) (a:=[]) (b:=[]) rfl ho;have h2:fr.ev E (.func g)= .fn (.func g) [] []:=rfl;have h4:(([]++(#[Operand.tmp x].toList.map (fr.ev E))++[]).all fun v=>aR (er v))=true:=by show (aR (er (fr.tm x))&& true)=true;rw[hx];rfl
  simp only[h1,h2,hi,h4,if_true,if_false,dG]
 show (⟨(gB E fr _).qw,(gB E fr _).mh,_++(gB E fr _).t,_++(gB E fr _).w⟩:dP)=_;rw[hf];rfl
theorem akT {all:List Oper}{d g x y t u ty:Nat}{pos:String}{cu:Array Edge}(hi:E.imp g=false)(ho:∀d',some d=some d'->E.own g d'=false)(hx:aR (er (fr.tm x))=true)(hy:aR (er (fr.tm y))=true):d9 E all fr ⟨some d,.call ⟨.value (.func g), #[.tmp x,.tmp y], #[t,u]⟩,ty,pos,cu,none⟩ true=⟨false,false,[.slot x,.slot y],[.slot d]⟩:=by
 have hf:gB E fr ⟨some d,.call ⟨.value (.func g), #[.tmp x,.tmp y], #[t,u]⟩,ty,pos,cu,none⟩=nA []:=by
  unfold gB;have h1:lU E fr ⟨some d,.call ⟨.value (.func g), #[.tmp x,.tmp y], #[t,u]⟩,ty,pos,cu,none⟩ (.func g)=false:=zx (g:=g) (a:=[]) (b:=[]) rfl ho;have h2:fr.ev E (.func g)= .fn (.func g) [] []:=rfl;have h4:(([]++(#[Operand.tmp x,Operand.tmp y].toList.map (fr.ev E))++[]).all fun v=>aR (er v))=true:=by show (aR (er (fr.tm x))&& (aR (er (fr.tm y))&& true))=true;rw[hx,hy];rfl
  simp only[h1,h2,hi,h4,if_true,if_false,dG]
 show (⟨(gB E fr _).qw,(gB E fr _).mh,_++(gB E fr _).t,_++(gB E fr _).w⟩:dP)=_;rw[hf];rfl
theorem Zx {all:List Oper}{base i:Nat}{o:Oper}{os:List Oper}{fs:List FF}{Q:Fr->ah->Prop}{c:Call}{f:Operand}{g:FuncId}{a b:List V}(F:dP)(ex:List aQ.Key)(hi:all[i]? =some o)(hw:fJ all fr o=some true)(ho:o.op= .call c)(fV:c.callee= .value f)(hf:fr.ev E f= .fn (.func g) a b)(hg:E.imp g=true)(hF:d9 E all fr o true=F)(hft:F.mh=true)(hp:iX E g (a++c.args.toList.map (fr.ev E)++b) (fr.d+1) Y (fun v aB=>(∀k∈ex,eD k (fr,Y) (fr.put o.dst v,aB))/\iY E all base (i+1) os (fr.put o.dst v) aB (fs++[⟨F,ex⟩]) Q))(eX:∀d,o.dst=some d->E.own g d=false:=by intros;rfl):iY E all base i (o::os) fr Y fs Q:=
 iY.AJ ex hi hw ho fV hf hg (by rw[hF];exact hft) (by rw[hF];exact hp) eX
theorem imp_mono {E:Env}{f:FuncId}{args:List V}{d:Nat}{Y:ah}{Q Q':V->ah->Prop}(h:iX E f args d Y Q)(hq:∀v Y',Q v Y'->Q' v Y'):iX E f args d Y Q':=
 let ⟨n,v,Y',h1,h2⟩:=h;⟨n,v,Y',h1,hq v Y' h2⟩
theorem aw1 {all:List Oper}{base i d x s ty:Nat}{c:Cap}{l:List au}{sh:Bool}{pos:String}{cu:Array Edge}{os:List Oper}{fs:List FF}{Q:Fr->ah->Prop}(hd:1<fr.d+1)(hl:l.length<2^62)(hi:all[i]? =some ⟨some d,.call ⟨.value (.func 147), #[.tmp x], #[200]⟩,ty,pos,cu,none⟩)(hx:fr.tm x= .ref (1,30) s 0)(FT:Y.dQ (1,30) s=some [.ak c (l.map au.v),.bool sh])(h:∀aB,Zv Y (fr.d+1) s c l sh (rA l).v aB->iY E all base (i+1) os (fr.put (some d) (rA l).v) aB (fs++[⟨⟨false,false,[.slot x],[.slot d,.obj (1,30),.obj (fr.d+1,2),.obj (fr.d+1,4),.nx]⟩,[]⟩]) Q):
 iY E all base i (⟨some d,.call ⟨.value (.func 147), #[.tmp x], #[200]⟩,ty,pos,cu,none⟩::os) fr Y fs Q:=by
 obtain⟨aB,e1,q1⟩:=akS hd hl FT;have hargs:([]:List V)++(#[Operand.tmp x]:Array Operand).toList.map (fr.ev E)++[]=[.ref (1,30) s 0]:=by show [fr.tm x]=_;rw[hx]
 refine iY.awL (g:=147) (a:=[]) (b:=[]) (v:=(rA l).v) (aB:=aB) ⟨false,false,[.slot x],[.slot d,.obj (1,30),.obj (fr.d+1,2),.obj (fr.d+1,4),.nx]⟩ hi rfl rfl rfl rfl rfl 2 rfl rfl ?_ ?_ ?_ ?_ ?_ ?_ (h aB q1)
 .intro k hk;have hk:k∈[Key.slot x]:=hk;exact hk
 .intro k hk;have hk:k∈[Key.slot d]:=hk;rw[iZ.1 hk];exact jv ..
 .intro t ht;simp only[jr,Key.slot.injEq,reduceCtorEq,List.not_mem_nil,or_false] at ht;rw[ht]
 .intro hk;simp at hk
 .intro Y' hag;have akU:Y.obj (1,30)=Y'.obj (1,30):=hag (.obj (1,30)) (.inr aD) rfl;have g4:Y.obj (fr.d+1,4)=Y'.obj (fr.d+1,4):=hag (.obj (fr.d+1,4)) (.inr aD) rfl;obtain⟨gn,aw2⟩:Y.next=Y'.next/\Y.loops=Y'.loops:=hag .nx (.inr aD) rfl;obtain⟨cO,e2,q2⟩:=akS hd hl ((uO (Y:=Y) (Y':=Y') akU.symm).trans FT);refine⟨cO,by rw[hargs];exact e2,fun k hk hs=>?_,fun k hk hs=>?_⟩
  .simp only[jr,List.not_mem_nil,or_false] at hk;rcases hk with rfl|rfl|rfl|rfl|rfl
   .cases hs
   .show aB.obj _=cO.obj _;rw[q1.ob,q2.ob]
   .show aB.obj _=cO.obj _;rw[q1.o2,q2.o2,gn]
   .show aB.obj _=cO.obj _;rw[q1.o4,q2.o4,gn,g4]
   .exact⟨by rw[q1.nx,q2.nx,gn],by rw[q1.lp,q2.lp,aw2]⟩
  .simp only[jr,List.not_mem_nil,or_false,not_or] at hk;obtain⟨-,k1,k2,k3,k4⟩:=hk;cases k with
   |slot t=>cases hs|rest=>cases hs|obj p=>exact(q2.ot p (fun e=>k1 (by rw[e])) (fun e=>k2 (by rw[e])) (fun e=>k3 (by rw[e]))).symm
   |top=>exact q2.top.symm|nx=>exact absurd rfl k4
 .rw[hargs];exact e1
end
structure Jy (Y:ah)(s5 s11 s12 p9:Nat)(leaf:au)(c:Cap)(l:List au)(sh:Bool):Prop where
 c5:Y.dQ (1,5) s5=some leaf.c
 c11:Y.dQ (1,11) s11=some [.ref (1,30) p9 0]
 c12:Y.dQ (1,12) s12=some [.fn (.func 146) [] [.ref (1,5) s5 0,.ref (1,11) s11 0,.ref (1,12) s12 0]]
 TR:Y.dQ (1,30) p9=some [.ak c (l.map au.v),.bool sh]
theorem Jy.mono {Y Y':ah}{s5 s11 s12 p9:Nat}{leaf:au}{c:Cap}{l:List au}{sh:Bool}(h:Jy Y s5 s11 s12 p9 leaf c l sh)(hs:∀o,Y'.obj (1,o)=Y.obj (1,o)):Jy Y' s5 s11 s12 p9 leaf c l sh:=
 ⟨(uO (hs _)).trans h.c5,(uO (hs _)).trans h.c11,(uO (hs _)).trans h.c12,(uO (hs _)).trans h.TR⟩
theorem rV {a b o o':Nat}(h:a≠b):((a,o):aQ.Loc)≠(b,o'):=fun e=>h (congrArg Prod.fst e)
theorem aw3 {node:au×au->Option au}{split:Int->Option Int}(Jz:∀a b x,node (a,b)=some x->Pure E 141 [a.v,b.v] x.v)(hsplit:∀p x,split p=some x->Pure E 132 [.int .i64 p] (.int .i64 x)){leaf:au}{s5 s11 s12 p9:Nat}:
 ∀(g:Nat)(i n:Int)(l:List au)(sh:Bool)(r:au×(List au×Bool)),Di node split leaf g i n l sh=some r->l.length<2^62->∀(dd:Nat)(Y:ah)(c:Cap),1<dd->Jy Y s5 s11 s12 p9 leaf c l sh->
  iX E 146 [.int .i64 i,.int .i64 n,.ref (1,5) s5 0,.ref (1,11) s11 0,.ref (1,12) s12 0] dd Y (fun v Y'=>v=r.1.v/\(∃c',Jy Y' s5 s11 s12 p9 leaf c' r.2.1 r.2.2)/\∀a o,a<dd->(a,o)≠((1,30):aQ.Loc)->Y'.obj (a,o)=Y.obj (a,o)):=by
 intro g;induction g with
 |zero=>intro i n l sh r h;cases h|succ g ih=>
  intro i n l sh r h hl dd Y c hdd hcs;have hP:E.P=Tryz.prog:=rfl;obtain⟨c5,c11,c12,TR⟩:=hcs;have hres:Tryz.f146.results.toList=[.cell 7 23]:=rfl;have z1:jc Tryz.prog 23=some vV.v:=av
  have awX:∀x:au,gM vV.c 0 x.c=x.c:=fun _=>av
  have f1:∀a b:V,gT Tryz.prog 205 [.fn (.func 146) [] [a,b,.ref (1,12) s12 0]] 0=some (.fn (.func 146) [] [a,b,.ref (1,12) s12 0]):=fun _ _=>rfl;have p1:gT Tryz.prog 200 [.ref (1,30) p9 0] 0=some (.ref (1,30) p9 0):=rfl;refine iX.of (fn:=Tryz.f146) (c:=Tryz.f146.body.getD .skip) Tryz.func146 rfl av ?_;generalize hfr:({d:=dd,aj:=E.aj 146,tm:=fun j=>([.int .i64 i,.int .i64 n,.ref (1,5) s5 0,.ref (1,11) s11 0,.ref (1,12) s12 0]:List V).getD j aP}:Fr)=fr;have a0:fr.tm 0= .int .i64 i:=iM
  have a1:fr.tm 1= .int .i64 n:=iM
  have a2:fr.tm 2= .ref (1,5) s5 0:=iM
  have a3:fr.tm 3= .ref (1,11) s11 0:=iM
  have a4:fr.tm 4= .ref (1,12) s12 0:=iM
  have hd:fr.d=dd:=Al
  have bQ:fr.aj=false:=iM
  clear hfr;have n1:∀o o':Nat,((1,o):aQ.Loc)≠(dd,o'):=fun o o'=>rV RS;have q7:rP (1,5) (dd,7)=false:=rfl;refine aF.seq (aF.region ?_);refine ay.a1 ?_;refine ay.nil (dh.n ?_);refine aF.seq (aF.seq (aF.region ?_));refine ay.a1 ?_;refine ay.a1 ?_;refine ay.nil (dh.n ?_);unfold Di at h;cases hb:n==1 with
  |true=>
   rw[hb,cond_true] at h;cases h;refine aF.uw jB ?_;refine aF.seq (aF.region ?_);refine ay.a1 ?_;refine ay.o0 bD pO ?_;refine ay.nil (dh.n (aF.ret (dh.r ?_)));rw[hres];refine oN.one tT xS ?_;refine⟨rfl,⟨c,Jy.mono ⟨c5,c11,c12,TR⟩ fun o=>?_⟩,fun a o h1 h2=>?_⟩
   .simp[ah.setObj,ah.bump,upd,n1]
   .have:((a,o):aQ.Loc)≠(dd,7):=rV RS;simp[ah.setObj,ah.bump,upd,this]
  |false=>
   rw[hb,cond_false,iP] at h;obtain⟨k,hk,h⟩:=h;refine aF.vG jB (aF.skip (dh.n ?_));refine aF.seq (aF.TL av ?_);refine xF _ rfl rfl Bo dY ?_;refine Zw _ (hsplit _ _ hk) rfl bD jB jB (aw0 rfl (by intros;rfl) bD) ?_;refine xF _ rfl rfl (FR (s:=s11) (off:=0) (loc:=(1,11)) a3) dY ?_;refine aw1 (l:=l) (sh:=sh) (c:=c) (s:=p9) (by show 1<fr.d+1;omega) hl rfl bD xU fun aB q1=>?_;refine xF _ rfl rfl awZ dY ?_;refine xF _ rfl rfl awY dY ?_;refine xF _ rfl rfl (TQ (off:=0) (loc:=(dd,9)) bD) pO ?_;refine iY.nil av (dh.n ?_);have m7:((dd,7):aQ.Loc)≠(1,30):=rV RS;have akV:∀o,((dd,7):aQ.Loc)≠(fr.d+1,o):=fun o=>rV RS;have m1:∀o o',((1,o):aQ.Loc)≠(fr.d+1,o'):=fun o o'=>rV RS;have g7:=(uO (s:=Y.next) (q1.ot (dd,7) m7 (akV 2) (akV 4))).trans (show _=some vV.c by simp only[go_sem,Nat.reduceBEq, *]);have g5:=(uO (s:=s5) (q1.ot (1,5) aK (m1 5 2) (m1 5 4))).trans (show _=some leaf.c by simp only[go_sem,Nat.reduceBEq, *]);have g11:=(uO (s:=s11) (q1.ot (1,11) aK (m1 11 2) (m1 11 4))).trans (show _=some [.ref (1,30) p9 0] by simp only[go_sem,Nat.reduceBEq, *]);have g12:=(uO (s:=s12) (q1.ot (1,12) aK (m1 12 2) (m1 12 4))).trans (show _=some [.fn (.func 146) [] [.ref (1,5) s5 0,.ref (1,11) s11 0,.ref (1,12) s12 0]] by simp only[go_sem,Nat.reduceBEq, *]);have akU:aB.dQ (1,30) p9=some [.ak (if l=[] then c else .full) (l.dropLast.map au.v),.bool (sh||l.isEmpty)]:=by unfold ah.dQ;rw[q1.ob];simp
   have akW:∀a o,a<dd->(a,o)≠((1,30):aQ.Loc)->aB.obj (a,o)=Y.obj (a,o):=fun a o h1 h2=>by rw[q1.ot (a,o) h2 (rV (show a≠fr.d+1 by omega)) (rV (show a≠fr.d+1 by omega))];have:((a,o):aQ.Loc)≠(dd,7):=rV RS;simp[ah.setObj,ah.bump,upd,this]
   clear q1;refine aF.seq (aF.seq (aF.region ?_));refine ay.a1 ?_;refine ay.a1 ?_;refine ay.a1 ?_;refine ay.nil (dh.n ?_);cases hik:decide (i<k) with
   |true=>
    rw[hik,cond_true,iP] at h;obtain⟨q,hq,h⟩:=h;rw[aY] at h;obtain⟨x,hx,rfl⟩:=h;refine aF.uw jB ?_;refine aF.seq (aF.TL av ?_);refine xF _ rfl rfl (FR (s:=s12) (off:=0) (loc:=(1,12)) a4) dY ?_;refine xF _ rfl rfl Bo dY ?_;refine xF _ rfl rfl Bo dY ?_;refine Zx (g:=146) (a:=[]) (b:=[.ref (1,5) s5 0,.ref (1,11) s11 0,.ref (1,12) s12 0]) ⟨true,true,[.slot 20,.slot 21,.slot 22],[.slot 23]⟩ [.obj (dd,9)] rfl rfl rfl rfl bD rfl bD rfl ?_;simp only[EO,Cq,RA,hd];change iX E 146 [.int .i64 i,.int .i64 k,.ref (1,5) s5 0,.ref (1,11) s11 0,.ref (1,12) s12 0] (dd+1) _ _;refine imp_mono (ih i k _ _ _ hq (by rw[List.length_dropLast];omega) (dd+1) _ (if l=[] then c else .full) RS ⟨?_,?_,?_,?_⟩) ?_
    .exact xU
    .exact xU
    .exact xU
    .exact xU
    rintro v cO ⟨rfl,⟨c',hcs'⟩,hfr⟩;have m9:((dd,9):aQ.Loc)≠(1,30):=rV RS;have g9:=(uO (hfr dd 9 RS m9)).trans (sP _ _ _ _);have aw4:=(uO (s:=Y.next) (hfr dd 7 RS m7)).trans (show _=some vV.c by simp only[go_sem,Nat.reduceBEq, *]);refine⟨fun k hk=>?_,?_⟩
    .rw[iZ.1 hk];exact(hfr dd 9 RS m9).symm
    refine xF _ rfl rfl (FR (off:=0) (loc:=(dd,9)) bD) dY ?_;refine Zw _ (Jz _ _ _ hx) rfl bD jB jB (akT rfl (by intros;rfl) (au.pc _) (au.pc _)) ?_;refine xF _ rfl rfl (TQ (off:=0) (loc:=(dd,7)) bD) pO ?_;refine iY.nil ?_ (dh.n (aF.ret (dh.r ?_)))
    .refine(congrArg (fun m=>Dl m _) (show oo _=[0,0,0,7,0,31,63] by kernel_rfl)).trans ?_;simp[Dl,Ju,List.range,List.range.loop,Key.eq,Key.state,Nat.testBit,aQ.rP,aQ.Key.eq,aQ.Key.state]
    rw[hres];refine oN.one tT xS ?_;refine⟨rfl,⟨c',hcs'.mono fun o=>?_⟩,fun a o h1 h2=>?_⟩
    .simp[ah.setObj,ah.bump,upd,n1]
    .have e1:((a,o):aQ.Loc)≠(dd,7):=rV RS;have e2:((a,o):aQ.Loc)≠(dd,9):=rV RS;have:=hfr a o RS h2;simp[ah.setObj,ah.bump,upd,e1,e2] at this⊢;rw[this];exact akW a o h1 h2
   |false=>
    rw[hik,cond_false,iP] at h;obtain⟨q,hq,h⟩:=h;rw[aY] at h;obtain⟨x,hx,rfl⟩:=h;refine aF.vG jB (aF.skip (dh.n ?_));refine aF.seq (aF.TL av ?_);refine xF _ rfl rfl (FR (off:=0) (loc:=(dd,9)) bD) dY ?_;refine xF _ rfl rfl (FR (s:=s12) (off:=0) (loc:=(1,12)) a4) dY ?_;refine xF _ rfl rfl Bo dY ?_;refine xF _ rfl rfl Bo dY ?_;refine xF ⟨false,false,[.slot 28,.slot 29],[.slot 30]⟩ rfl rfl rfl dY ?_;refine xF _ rfl rfl Bo dY ?_;refine xF _ rfl rfl Bo dY ?_;refine xF ⟨false,false,[.slot 31,.slot 32],[.slot 33]⟩ rfl rfl rfl dY ?_;refine Zx (g:=146) (a:=[]) (b:=[.ref (1,5) s5 0,.ref (1,11) s11 0,.ref (1,12) s12 0]) ⟨true,true,[.slot 27,.slot 30,.slot 33],[.slot 34]⟩ [.obj (dd,9)] rfl rfl rfl rfl bD rfl bD rfl ?_;simp only[EO,Cq,RA,hd];change iX E 146 [.int .i64 (IntKind.wrap .i64 (i-k)),.int .i64 (IntKind.wrap .i64 (n-k)),.ref (1,5) s5 0,.ref (1,11) s11 0,.ref (1,12) s12 0] (dd+1) _ _;refine imp_mono (ih _ _ _ _ _ hq (by rw[List.length_dropLast];omega) (dd+1) _ (if l=[] then c else .full) RS ⟨?_,?_,?_,?_⟩) ?_
    .exact xU
    .exact xU
    .exact xU
    .exact xU
    rintro v cO ⟨rfl,⟨c',hcs'⟩,hfr⟩;have m9:((dd,9):aQ.Loc)≠(1,30):=rV RS;have aw4:=(uO (s:=Y.next) (hfr dd 7 RS m7)).trans (show _=some vV.c by simp only[go_sem,Nat.reduceBEq, *]);refine⟨fun k hk=>?_,?_⟩
    .rw[iZ.1 hk];exact(hfr dd 9 RS m9).symm
    refine Zw _ (Jz _ _ _ hx) rfl bD jB jB (akT rfl (by intros;rfl) (au.pc _) (au.pc _)) ?_;refine xF _ rfl rfl (TQ (off:=0) (loc:=(dd,7)) bD) pO ?_;refine iY.nil ?_ (dh.n (aF.ret ?_))
    .refine(congrArg (fun m=>Dl m _) (show oo _=[0,0,0,0,12,0,0,96,254,511,1023] by kernel_rfl)).trans ?_;simp[Dl,Ju,List.range,List.range.loop,Key.eq,Key.state,Nat.testBit,aQ.rP,aQ.Key.eq,aQ.Key.state]
    rw[hres];refine oN.one tT xS ?_;refine⟨rfl,⟨c',hcs'.mono fun o=>?_⟩,fun a o h1 h2=>?_⟩
    .simp[ah.setObj,ah.bump,upd,n1]
    .have e1:((a,o):aQ.Loc)≠(dd,7):=rV RS;have e2:((a,o):aQ.Loc)≠(dd,9):=rV RS;have:=hfr a o RS h2;simp[ah.setObj,ah.bump,upd,e1,e2] at this⊢;rw[this];exact akW a o h1 h2
theorem aw5 {s10 p9:Nat}{c:Cap}{l:List au}{ok sh:Bool}{Y:ah}(h10:Y.dQ (1,10) s10=some [.bool ok])(FT:Y.dQ (1,30) p9=some [.ak c (l.map au.v),.bool sh]):
 iX E 145 [.ref (1,30) p9 0,.ref (1,10) s10 0] 2 Y (fun _ aB=>aB.dQ (1,10) s10=some [.bool (ok&& !sh&& l.isEmpty)]):=by
 have hP:E.P=Tryz.prog:=rfl;have hmap:(l.map au.v).length=l.length:=fH ..;refine iX.of (fn:=Tryz.f145) (c:=Tryz.f145.body.getD .skip) Tryz.func145 rfl av ?_;generalize hfr:({d:=2,aj:=E.aj 145,tm:=fun j=>([.ref (1,30) p9 0,.ref (1,10) s10 0]:List V).getD j aP}:Fr)=fr;have a0:fr.tm 0= .ref (1,30) p9 0:=iM
 have a1:fr.tm 1= .ref (1,10) s10 0:=iM
 have bQ:fr.aj=false:=iM
 clear hfr;have l0:∀c L sh,gT Tryz.prog 65 [V.ak c L,.bool sh] 0=some (.ak c L):=fun _ _ _=>av
 have l1:∀c L sh,gT Tryz.prog 4 [V.ak c L,.bool sh] 1=some (.bool sh):=fun _ _ _=>av
 have l2:∀b:Bool,gT Tryz.prog 4 [V.bool b] 0=some (.bool b):=fun _=>av
 have hres:Tryz.f145.results.toList=[]:=rfl;have hle:((((l.map au.v).length:Nat):Int)==0)=l.isEmpty:=by cases l<;>simp<;>omega
 refine aF.region ?_;refine ay.a1 ?_;refine ay.a1 ?_;refine ay.a1 ?_;refine ay.a1 ?_;refine ay.a1 ?_;cases ok with
 |false=>refine ay.s1 dZ ?_;refine ay.s1 dZ ?_;refine ay.s1 dZ ?_;refine ay.s1 dZ ?_;refine ay.s1 dZ ?_;refine ay.o1 bD uU ?_;refine ay.a1 ?_;refine ay.s1 dZ ?_;refine ay.s1 dZ ?_;refine ay.s1 dZ ?_;refine ay.s1 dZ ?_;refine ay.s1 dZ ?_;refine ay.s1 dZ ?_;refine ay.o1 bD uU ?_;refine ay.a1 ?_;refine ay.o0 bD pO ?_;refine ay.nil ?_;rw[hres];exact⟨[],rfl,La⟩
 |true=>
  refine ay.o1 dZ dY ?_;refine ay.o1 dZ dY ?_;refine ay.o1 dZ dY ?_;refine ay.o1 dZ dY ?_;refine ay.o1 dZ dY ?_;cases sh with
  |true=>refine ay.o1 bD y8 ?_;refine ay.a1 ?_;refine ay.s1 dZ ?_;refine ay.s1 dZ ?_;refine ay.s1 dZ ?_;refine ay.s1 dZ ?_;refine ay.s1 dZ ?_;refine ay.s1 dZ ?_;refine ay.o1 bD uU ?_;refine ay.a1 ?_;refine ay.o0 bD pO ?_;refine ay.nil ?_;rw[hres];exact⟨[],rfl,La⟩
  |false=>refine ay.o1 bD y8 ?_;refine ay.a1 ?_;refine ay.o1 dZ dY ?_;refine ay.o1 dZ dY ?_;refine ay.o1 dZ dY ?_;refine ay.o1 dZ dY ?_;refine ay.o1 dZ dY ?_;refine ay.o1 dZ dY ?_;refine ay.o1 bD y8 ?_;refine ay.a1 ?_;refine ay.o0 bD pO ?_;refine ay.nil ?_;rw[hres];rw[hmap] at hle;exact⟨[],rfl,by simp only[go_sem,Nat.reduceBEq, *];rw[<-hle];rfl⟩
theorem vY.r {E:Env}{fr:Fr}{Y:ah}{b:Code}{Q:Ex->Fr->ah->vW->Prop}(h:Q .ret fr Y none):vY E b Q .ret fr Y:=h
theorem aw6 {E:Env}{S:iW}{fr:Fr}{Y:ah}{ops:List Oper}{base:Nat}{o:Oper}{v:V}(h0:ops[0]? =some o)(hw:fJ ops fr o=some true)(hop:Is (opC E S fr Y (base+0) o) (some (v,fr,Y))):opsL E S ops base (List.range 1) fr Y=some (fr.put o.dst v,Y):=by show (jk E S ops base 0 fr Y).bind (fun (fr,Y)=>opsL E S ops base [] fr Y)=_;rw[zS h0 hw hop];rfl
theorem akX {E:Env}{S:iW}{fr:Fr}{Y:ah}{st ty:Nat}{pos:String}{cu:Array Edge}{gd:Option (Nat×Bool)}{d:Option Nat}{f:FuncId}{a b:List Operand}:opC E S fr Y st ⟨d,.makeFunc (.func f) a.toArray b.toArray,ty,pos,cu,gd⟩=some (.fn (.func f) (a.map (fr.ev E)) (b.map (fr.ev E)),fr,Y):=rfl
theorem aw7 {E:Env}{Y:ah}{f:FuncId}{args:List V}{d:Nat}{fn:Func}{c:Code}{R:V->ah->Prop}(hf:E.P.funcs[f]? =some fn)(hb:fn.body=some c)(hok:(decide (args.length<=fn.ntmps)&& iI fn.ntmps c&& kr c)=true)(h:uP E c {d:=d,aj:=E.aj f,tm:=fun i=>args.getD i aP} Y (fun e bJ aB q=>(e= .normal\/e= .ret)/\q=none/\∃vs,fn.results.toList.mapM (jC E bJ aB)=some vs/\R (Dn vs) aB)):
 ∃m v Y',FQ E (bI E m) (bI E (m+1)) f args d Y=some (v,Y')/\R v Y':=by
 obtain⟨n,e,bJ,aB,q,h1,he,rfl,vs,h3,h4⟩:=h;have hok':args.length<=fn.ntmps/\iI fn.ntmps c/\kr c=true:=by simp only[aZ,decide_eq_true_eq] at hok;exact⟨hok.1.1,hok.1.2,hok.2⟩
 refine⟨n,Dn vs,aB,?_,h4⟩;unfold FQ;rw[hf,Option.bind_some,hb,Option.bind_some,if_pos hok',h1,Option.bind_some];rcases he with rfl|rfl
 .dsimp only;rw[Option.bind_some,h3];rfl
 .dsimp only;rw[Option.bind_some,h3];rfl
theorem akY (x y:au):sN Tryz.prog .eql 23 x.v y.v=some (.bool (xB x y)):=by cases x;cases y;kernel_rfl
theorem aw8 {node:au×au->Option au}{split:Int->Option Int}(Jz:∀a b x,node (a,b)=some x->Pure E 141 [a.v,b.v] x.v)(hsplit:∀p x,split p=some x->Pure E 132 [.int .i64 p] (.int .i64 x)){leaf root:au}{i n:Int}{l:List au}{b:Bool}(hl:l.length<2^62)(h:Nt node split leaf i n l root=some b):
 ∃m v Y',FQ E (bI E m) (bI E (m+1)) 100 [leaf.v,.int .i64 i,.int .i64 n,lv au.v l,root.v] 1 ah.init=some (v,Y')/\v= .bool b:=by
 have hP:E.P=Tryz.prog:=rfl;have hres:Tryz.f100.results.toList=[.cell 10 4]:=rfl;have l2:∀b:Bool,gT Tryz.prog 4 [V.bool b] 0=some (.bool b):=fun _=>av
 have z4:jc Tryz.prog 4=some (.bool false):=av
 have aFT:tZ E 23 (some 5)=false:=rfl;have aFU:tZ E 23 (some 9)=false:=rfl;cases he:(decide (n<1)||decide (n>1099511627776)||decide (i<0)||decide (i>=n)) with
 |true=>
  unfold Nt at h;rw[he,cond_true] at h;cases h;refine aw7 (fn:=Tryz.f100) (c:=Tryz.f100.body.getD .skip) (R:=fun v _=>v= .bool false) Tryz.func100 rfl av ?_;generalize hfr:({d:=1,aj:=E.aj 100,tm:=fun j=>([leaf.v,.int .i64 i,.int .i64 n,lv au.v l,root.v]:List V).getD j aP}:Fr)=fr;have a0:fr.tm 0=leaf.v:=iM
  have a1:fr.tm 1= .int .i64 i:=iM
  have a2:fr.tm 2= .int .i64 n:=iM
  have a3:fr.tm 3=lv au.v l:=iM
  have a4:fr.tm 4=root.v:=iM
  have hd:fr.d=1:=Al
  have bQ:fr.aj=false:=iM
  clear hfr;refine uP.seq (aF.region ?_);refine ay.a1 ?_;refine ay.a1 ?_;refine ay.a1 ?_;refine ay.nil (vY.n ?_);refine uP.seq (aF.seq (aF.region ?_));cases h1:decide (n<1) with
  |true=>refine ay.a1 ?_;refine ay.a1 ?_;refine ay.a1 ?_;refine ay.s1 dZ ?_;refine ay.s1 dZ ?_;refine ay.o1 bD y8 ?_;refine ay.a1 ?_;refine ay.s1 dZ ?_;refine ay.s1 dZ ?_;refine ay.o1 bD y8 ?_;refine ay.a1 ?_;refine ay.s1 dZ ?_;refine ay.s1 dZ ?_;refine ay.s1 dZ ?_;refine ay.o1 bD y8 ?_;refine ay.nil (dh.n (aF.uw jB (aF.seq (aF.region ?_))));refine ay.o0 bD pO ?_;refine ay.nil (dh.n (aF.ret (vY.r ?_)));refine⟨.inr rfl,rfl,[.bool false],?_,rfl⟩;rw[hres];simp only[iN,List.mapM_nil,jC,go_sem,Nat.reduceBEq, *];rfl
  |false=>
   cases h2:decide (n>1099511627776) with
   |true=>refine ay.a1 ?_;refine ay.a1 ?_;refine ay.a1 ?_;refine ay.o1 dZ dY ?_;refine ay.o1 dZ dY ?_;refine ay.o1 bD uU ?_;refine ay.a1 ?_;refine ay.s1 dZ ?_;refine ay.s1 dZ ?_;refine ay.o1 bD y8 ?_;refine ay.a1 ?_;refine ay.s1 dZ ?_;refine ay.s1 dZ ?_;refine ay.s1 dZ ?_;refine ay.o1 bD y8 ?_;refine ay.nil (dh.n (aF.uw jB (aF.seq (aF.region ?_))));refine ay.o0 bD pO ?_;refine ay.nil (dh.n (aF.ret (vY.r ?_)));refine⟨.inr rfl,rfl,[.bool false],?_,rfl⟩;rw[hres];simp only[iN,List.mapM_nil,jC,go_sem,Nat.reduceBEq, *];rfl
   |false=>
    cases h3:decide (i<0) with
    |true=>refine ay.a1 ?_;refine ay.a1 ?_;refine ay.a1 ?_;refine ay.o1 dZ dY ?_;refine ay.o1 dZ dY ?_;refine ay.o1 bD uU ?_;refine ay.a1 ?_;refine ay.o1 dZ dY ?_;refine ay.o1 dZ dY ?_;refine ay.o1 bD uU ?_;refine ay.a1 ?_;refine ay.s1 dZ ?_;refine ay.s1 dZ ?_;refine ay.s1 dZ ?_;refine ay.o1 bD y8 ?_;refine ay.nil (dh.n (aF.uw jB (aF.seq (aF.region ?_))));refine ay.o0 bD pO ?_;refine ay.nil (dh.n (aF.ret (vY.r ?_)));refine⟨.inr rfl,rfl,[.bool false],?_,rfl⟩;rw[hres];simp only[iN,List.mapM_nil,jC,go_sem,Nat.reduceBEq, *];rfl
    |false=>have h4:decide (i>=n)=true:=(by rw[h1,h2,h3] at he;simpa using he);refine ay.a1 ?_;refine ay.a1 ?_;refine ay.a1 ?_;refine ay.o1 dZ dY ?_;refine ay.o1 dZ dY ?_;refine ay.o1 bD uU ?_;refine ay.a1 ?_;refine ay.o1 dZ dY ?_;refine ay.o1 dZ dY ?_;refine ay.o1 bD uU ?_;refine ay.a1 ?_;refine ay.o1 dZ dY ?_;refine ay.o1 dZ dY ?_;refine ay.o1 dZ dY ?_;refine ay.o1 bD uU ?_;refine ay.nil (dh.n (aF.uw jB (aF.seq (aF.region ?_))));refine ay.o0 bD pO ?_;refine ay.nil (dh.n (aF.ret (vY.r ?_)));refine⟨.inr rfl,rfl,[.bool false],?_,rfl⟩;rw[hres];simp only[iN,List.mapM_nil,jC,go_sem,Nat.reduceBEq, *];rfl
 |false=>
  unfold Nt at h;rw[he,cond_false,aY] at h;obtain⟨r,hr,rfl⟩:=h;have h1:decide (n<1)=false:=by cases h:decide (n<1)<;>rw[h] at he<;>simp_all
  have h2:decide (n>1099511627776)=false:=by cases h:decide (n>1099511627776)<;>rw[h] at he<;>simp_all
  have h3:decide (i<0)=false:=by cases h:decide (i<0)<;>rw[h] at he<;>simp_all
  have h4:decide (i>=n)=false:=by cases h:decide (i>=n)<;>rw[h] at he<;>simp_all
  have aFV:tZ E 202 (some 30)=false:=rfl;have aFW:jc Tryz.prog 200=some .gZ:=av
  have aFX:jc Tryz.prog 205=some .gL:=av
  have aFY:dM Tryz.prog 200=some 1:=av
  have aFZ:dM Tryz.prog 205=some 1:=av
  have aF0:dx V.gZ.cells=true:=rfl;have aF1:dx V.gL.cells=true:=rfl;have aF2:∀x:V,gM V.gZ.cells 0 [x]=[x]:=fun _=>rfl;have aF3:∀x:V,gM V.gL.cells 0 [x]=[x]:=fun _=>rfl;have lP:V.gZ.cells.length=1:=rfl;have aF4:V.gL.cells.length=1:=rfl;have eqd:=akY r.1 root;have aF5:∀x y:V,gM [y] 0 [x]=[x]:=fun _ _=>rfl;have b2:RJ E 202 [(0,lv au.v l)]=some [lv au.v l,.bool false]:=av
  have f1:∀a b c:V,gT Tryz.prog 205 [.fn (.func 146) [] [a,b,c]] 0=some (.fn (.func 146) [] [a,b,c]):=fun _ _ _=>rfl;have p1:∀s,gT Tryz.prog 200 [.ref (1,30) s 0] 0=some (.ref (1,30) s 0):=fun _=>rfl;refine awU (fn:=Tryz.f100) (c:=Tryz.f100.body.getD .skip) (R:=fun v _=>v= .bool (xB r.1 root&& !r.2.2&& r.2.1.isEmpty)) Tryz.func100 rfl av ?_;generalize hfr:({d:=1,aj:=E.aj 100,tm:=fun j=>([leaf.v,.int .i64 i,.int .i64 n,lv au.v l,root.v]:List V).getD j aP}:Fr)=fr;have a0:fr.tm 0=leaf.v:=iM
  have a1:fr.tm 1= .int .i64 i:=iM
  have a2:fr.tm 2= .int .i64 n:=iM
  have a3:fr.tm 3=lv au.v l:=iM
  have a4:fr.tm 4=root.v:=iM
  have hd:fr.d=1:=Al
  have bQ:fr.aj=false:=iM
  clear hfr;refine uP.seq (aF.region ?_);refine ay.a1 ?_;refine ay.a1 ?_;refine ay.a1 ?_;refine ay.nil (vY.n ?_);refine uP.seq (aF.seq (aF.region ?_));refine ay.a1 ?_;refine ay.a1 ?_;refine ay.a1 ?_;refine ay.o1 dZ dY ?_;refine ay.o1 dZ dY ?_;refine ay.o1 bD uU ?_;refine ay.a1 ?_;refine ay.o1 dZ dY ?_;refine ay.o1 dZ dY ?_;refine ay.o1 bD uU ?_;refine ay.a1 ?_;refine ay.o1 dZ dY ?_;refine ay.o1 dZ dY ?_;refine ay.o1 dZ dY ?_;refine ay.o1 bD uU ?_;refine ay.nil (dh.n (aF.vG jB (aF.skip (vY.n ?_))));refine uP.seq (aF.region ?_);refine ay.a1 ?_;refine ay.a1 ?_;refine ay.a1 ?_;refine ay.a1 ?_;refine ay.o0 bD pO ?_;refine ay.nil (vY.n ?_);refine uP.defer (k:=1) (m:=0) rfl ⟨rfl,rfl⟩ (aw6 rfl rfl jB) bD ?_;refine aF.seq (aF.region ?_);refine ay.a1 ?_;refine ay.nil (dh.n ?_);refine aF.seq (aF.region ?_);refine ay.o1 bD (by intro S;rw[akX (a:=[]) (b:=[.tmp 5,.tmp 11,.tmp 12])];simp only[iH,List.map_nil,go_sem,Nat.reduceBEq,Nat.reduceAdd, *];exact Is.rfl) ?_;refine ay.o0 bD pO ?_;refine ay.nil (dh.n ?_);refine aF.seq (aF.TL av ?_);refine xF _ rfl rfl (FR (off:=0) (loc:=(1,12)) bD) dY ?_;refine xF _ rfl rfl Bo dY ?_;refine xF _ rfl rfl Bo dY ?_;refine Zx (g:=146) (a:=[]) ⟨true,true,[.slot 33,.slot 34,.slot 35],[.slot 36]⟩ [.obj (1,9)] rfl rfl rfl rfl bD rfl bD rfl ?_;simp only[EO,Cq,RA,hd];change iX E 146 [.int .i64 i,.int .i64 n,.ref (1,5) _ 0,.ref (1,11) _ 0,.ref (1,12) _ 0] 2 _ _;refine imp_mono (aw3 (p9:=20) Jz hsplit _ i n l false r hr hl 2 _ .sh aK ⟨av,av,av,av⟩) ?_;rintro v cO ⟨rfl,⟨c',hcs'⟩,hfr⟩;have g9:=(uO (s:=ah.init.next+1) (hfr 1 9 aK aK)).trans (show _=some root.c by kernel_rfl);have g10:=(uO (s:=ah.init.next+2) (hfr 1 10 aK aK)).trans (show _=some [.bool false] by kernel_rfl);refine⟨fun k hk=>?_,?_⟩
  .rw[iZ.1 hk];exact(hfr 1 9 aK aK).symm
  refine xF _ rfl rfl (FR (off:=0) (loc:=(1,9)) bD) dY ?_;refine xF (v:=.bool (xB r.1 root)) ⟨false,false,[.slot 36,.slot 37],[.slot 38]⟩ rfl rfl rfl (by intro S;rw[ahN];exact congrArg (Option.map fun v=>(v,_,_)) (akY r.1 root)) ?_;refine xF _ rfl rfl (TQ (off:=0) (loc:=(1,10)) bD) pO ?_;refine iY.nil av (dh.n (aF.ret ?_));refine⟨.inr rfl,145,[.ref (1,30) 20 0,.ref (1,10) (ah.init.next+2) 0],rfl,av,imp_mono (aw5 (c:=c') (l:=r.2.1) (ok:=xB r.1 root) (sh:=r.2.2) ?_ ?_) fun _ qU h3=>⟨[.bool (xB r.1 root&& !r.2.2&& r.2.1.isEmpty)],?_,rfl⟩⟩
  .simp only[go_sem,Nat.reduceBEq, *]
  .exact(EP _ _ _ _ rfl).trans hcs'.TR
  .rw[hres];simp only[iN,List.mapM_nil,jC,go_sem,Nat.reduceBEq,h3, *];rfl
end Sh
end
section
namespace aQ
open Go Go.RowKit
theorem aw9 {E:Env}{call:FuncId->List V->Nat->ah->Option (V×ah)}(hS:EL E call){f:FuncId}{args:List V}{v v0:V}{aB:ah}(hc:call f args 1 ah.init=some (v0,aB))(h:bq 20 aB v0=some v):rT E f args v:=by
 obtain⟨_,hb,hs⟩:=hS _ _ _ _ _ _ hc;refine⟨hb,fun I IM w dO hl hr=>?_⟩;have hr':RelA (bA.lend I IM) ah.init.top w args dO:=hr;refine(hs none w.heap.size (bA.lend I IM) w dO (WB hl) (iR _) (fun s hs=>hs.elim) hr').mono ?_;intro e w' hp;cases e with
 |returned c=>
  obtain⟨K1,r1,s1,_,st⟩:=hp;refine⟨st.below,?_⟩;have:=WA (T':=fun _=>0) s1 20 v0 v c r1 h;refine this.LY (fun b o hi=>⟨⟨?_,hi.2⟩,rfl⟩) (fun b hi=>⟨⟨?_,hi.2⟩,rfl⟩)
  .rcases hi.1 with h1|h1
   .exact st.zn b o h1
   .exact .inr h1
  .rcases hi.1 with h1|h1
   .exact st.zo b h1
   .exact .inr h1
 |panicked ch=>exact hp.elim|outgrown=>exact hp.elim
end aQ
end
