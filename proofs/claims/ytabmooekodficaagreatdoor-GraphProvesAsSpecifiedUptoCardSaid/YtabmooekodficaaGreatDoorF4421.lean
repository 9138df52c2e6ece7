import Derived.Test.YtabmooekodficaaGreatDoorF4420
set_option linter.all false
section
open Go Go.Proofs Aq
namespace Sh
set_option maxRecDepth 100000
set_option maxHeartbeats 1000000
theorem aay {n:Int} (h0: -(2^63)<=n) (h1:n<2^63):IntKind.i64.wrap n=n:=by
 rw[IntKind.wrap_i64];omega
section
variable {E:Env} {S:bH} {fr:Fr} {σ:Sig} {st ty:Nat} {pos:String} {aG:Array Edge} {gd:Option (Nat×Bool)}
theorem aaz {d:Option Nat} (x:Operand):opC E S fr σ st ⟨d,.nilCheck x,ty,pos,aG,gd⟩=(match fr.ev E x with
 |.ref loc s off=>some (.ref loc s off,fr,σ)
 |.cref cs off=>some (.cref cs off,fr,σ)
 |.fn (.func f) a b=>some (.fn (.func f) a b,fr,σ)
 |_=>none):=by
 simp only[opC,opV]
 cases fr.ev E x with
 |fn f a b=>cases f<;>rfl
 |_=>rfl
attribute [go_sem] aaz
theorem I7 {d:Option Nat} {x h m:Operand} {t e:TypeId} {sz:Nat} {c:Cap} {l:List V} {k:Int} (hx:fr.ev E x= .lst c l) (hh:fr.ev E h= .int .i64 k) (hm:fr.ev E m= .int .i64 k) (hu:E.P.underlying t=some (.slice e)) (hs:szT E.P e=some sz) (hz:eF sz l=true) (h0:0<=k) (h1:k<=(l.length:Nat)):
 opC E S fr σ st ⟨d,.slice t x none (some h) (some m),ty,pos,aG,gd⟩=some (.lst .full (l.take k.toNat),fr,σ):=by
 show Option.map _ ((dQ E.P σ t (fr.ev E x) none (some (fr.ev E h)) (some (fr.ev E m))).map fun v=>(v,σ))=_
 rw[hx,hh,hm]
 unfold dQ
 rw[hu];dsimp only
 rw[hs,Option.bind_some]
 have:bS l.length l.length none (some (.int .i64 k)) (some (.int .i64 k))=some (0,k.toNat,k.toNat):=by
  unfold bS bnd dP
  simp only[Option.bind_some]
  rw[if_pos ⟨h0,h1⟩,Option.bind_some]
  rw[if_pos ⟨h0,by omega⟩,Option.bind_some]
 rw[this,Option.bind_some,if_pos hz,if_neg (by simp)]
 simp
end
structure LQ (σ:Sig) (d s:Nat) (c:Cap) (l:List ah) (sh:Bool) (v:V) (σ1:Sig):Prop where
 v:v=(dM l).v
 nx:σ1.next=σ.next+(if l=[] then 15 else 34)
 top:σ1.top=σ.top
 lp:σ1.loops=σ.loops
 ob:σ1.obj (1,30)=some (s,.cells [.lst (if l=[] then c else .full) (l.dropLast.map ah.v),.bool (sh||l.isEmpty)])
 o2:σ1.obj (d,2)=some (σ.next,.cells (dM l).c)
 o4:σ1.obj (d,4)=if l=[] then σ.obj (d,4) else some (σ.next+17,.cells (dM l).c)
 ot:∀p,p≠(1,30)->p≠(d,2)->p≠(d,4)->σ1.obj p=σ.obj p
theorem mY (l:List ah):jK 16 (l.map ah.v)=true:=Xl (f:=ah.v) (sz:=16) (fun x=>⟨by rw[ah.cells];exact ah.len x,by rw[ah.cells];exact ah.one x⟩) l
theorem aaA {d s:Nat} {c:Cap} {l:List ah} {sh:Bool} {σ:Sig} (hd:1<d) (hl:l.length<2^62) (h:σ.cellsAt (1,30) s=some [.lst c (l.map ah.v),.bool sh]):
 Imp E 68 [.ref (1,30) s 0] d σ (LQ σ d s c l sh):=by
 have hP:E.P=Tryz.prog:=rfl
 have hmap:(l.map ah.v).length=l.length:=ab3 ..
 have e2:szT E.P 29=some 16:=by kernel_rfl
 have e6:E.P.underlying 30=some (.slice 29):=by kernel_rfl
 refine Imp.of (fn:=Tryz.f68) (c:=Tryz.f68.body.getD .skip) Tryz.func68 rfl (by kernel_rfl) ?_
 generalize hfr:({d:=d,om:=E.om 68,tm:=fun j=>([.ref (1,30) s 0]:List V).getD j undefV}:Fr)=fr
 have a0:fr.tm 0= .ref (1,30) s 0:=by rw[<-hfr];rfl
 have hd':fr.d=d:=by rw[<-hfr]
 have hom:fr.om=false:=by rw[<-hfr];rfl
 clear hfr
 have z1:zeroT Tryz.prog 29=some zD.v:=by kernel_rfl
 have l0:∀c L sh,ldT Tryz.prog 30 [V.lst c L,.bool sh] 0=some (.lst c L):=fun _ _ _=>by kernel_rfl
 have l1:∀c L sh,ldT Tryz.prog 4 [V.lst c L,.bool sh] 1=some (.bool sh):=fun _ _ _=>by kernel_rfl
 have b0:Bj E 29 []=some zD.c:=by kernel_rfl
 have sp0:∀x:ah,spliceL zD.c 0 x.c=x.c:=fun _=>by kernel_rfl
 have sp1:∀(c c2:Cap) (L L2:List V) (sh:Bool),spliceL [V.lst c L,V.bool sh] 0 [V.lst c2 L2]=[V.lst c2 L2,V.bool sh]:=fun _ _ _ _ _=>rfl
 have sp2:∀(c:Cap) (L:List V) (sh b:Bool),spliceL [V.lst c L,V.bool sh] 1 [V.bool b]=[V.lst c L,V.bool b]:=fun _ _ _ _=>rfl
 have hres:Tryz.f68.results.toList=[.cell 2 29]:=rfl
 refine CW.seq (CW.region ?_)
 refine OW.o1 (by rfl) (fun S=>by simp only[go_sem,Nat.reduceBEq,Nat.reduceAdd, *];with_reducible exact Is.rfl) ?_
 refine OW.nil (SeqQ.n ?_)
 refine CW.seq (CW.region ?_)
 refine OW.o1 (by rfl) (fun S=>by simp only[go_sem,Nat.reduceBEq,Nat.reduceAdd, *];with_reducible exact Is.rfl) ?_
 refine OW.o1 (by rfl) (fun S=>by simp only[go_sem,Nat.reduceBEq,Nat.reduceAdd, *];with_reducible exact Is.rfl) ?_
 refine OW.o1 (by rfl) (fun S=>by simp only[go_sem,Nat.reduceBEq,Nat.reduceAdd, *];with_reducible exact Is.rfl) ?_
 refine OW.o1 (by rfl) (fun S=>by simp only[go_sem,Nat.reduceBEq,Nat.reduceAdd, *];with_reducible exact Is.rfl) ?_
 refine OW.o1 (by rfl) (fun S=>by simp only[go_sem,Nat.reduceBEq,Nat.reduceAdd, *];with_reducible exact Is.rfl) ?_
 refine OW.o1 (by rfl) (fun S=>by simp only[go_sem,Nat.reduceBEq,Nat.reduceAdd, *];with_reducible exact Is.rfl) ?_
 refine OW.nil (SeqQ.n ?_)
 refine CW.seq (CW.seq (CW.region ?_))
 refine OW.o1 (by rfl) (fun S=>by simp only[go_sem,Nat.reduceBEq,Nat.reduceAdd, *];with_reducible exact Is.rfl) ?_
 refine OW.o1 (by rfl) (fun S=>by simp only[go_sem,Nat.reduceBEq,Nat.reduceAdd, *];with_reducible exact Is.rfl) ?_
 refine OW.nil (SeqQ.n ?_)
 cases l with
 |nil=>
  refine CW.condT (by exact Is.rfl) ?_
  refine CW.seq (CW.region ?_)
  refine OW.o1 (by rfl) (fun S=>by simp only[go_sem,Nat.reduceBEq,Nat.reduceAdd, *];with_reducible exact Is.rfl) ?_
  refine OW.o1 (by rfl) (fun S=>by simp only[go_sem,Nat.reduceBEq,Nat.reduceAdd, *];with_reducible exact Is.rfl) ?_
  refine OW.o1 (by rfl) (fun S=>by simp only[go_sem,Nat.reduceBEq,Nat.reduceAdd, *];with_reducible exact Is.rfl) ?_
  refine OW.o0 (by rfl) (fun S=>by simp only[go_sem,Nat.reduceBEq,Nat.reduceAdd, *];first|exact if_pos (iP _)| (rw[if_pos (by first| (simp;done)|rfl|exact⟨rfl,rfl⟩|exact⟨iP _,rfl⟩)];exact Is.rfl)) ?_
  refine OW.nil (SeqQ.n ?_)
  refine CW.seq (CW.region ?_)
  refine OW.o1 (by rfl) (fun S=>by simp only[go_sem,Nat.reduceBEq,Nat.reduceAdd, *];with_reducible exact Is.rfl) ?_
  refine OW.o0 (by rfl) (fun S=>by simp only[go_sem,Nat.reduceBEq,Nat.reduceAdd, *];first|exact if_pos (iP _)| (rw[if_pos (by first| (simp;done)|rfl|exact⟨rfl,rfl⟩|exact⟨iP _,rfl⟩)];exact Is.rfl)) ?_
  refine OW.nil (SeqQ.n (CW.ret (SeqQ.r ?_)))
  rw[hres]
  refine RetQ.one (by intro i h;cases h) (by simp only[resV,go_sem,Nat.reduceBEq, *];exact Is.rfl) ?_
  have hne:((d,2):Aq.Loc)≠(1,30):=by intro e;injection e with e1 e2;cases e2
  have Cq:((d,4):Aq.Loc)≠(1,30):=by intro e;injection e with e1 e2;cases e2
  have hne2:((d,4):Aq.Loc)≠(d,2):=by intro e;injection e with e1 e2;cases e2
  exact {v:=rfl,nx:=by rw[if_pos rfl];rfl,top:=rfl,lp:=rfl,ob:=by simp[Sig.setObj,Sig.bump,upd,hne.symm,spliceL,V.cells],o2:=by simp[Sig.setObj,Sig.bump,upd,spliceL,dM],o4:=by simp[Sig.setObj,Sig.bump,upd,Cq,hne2],ot:=fun p h1 h2 h4=>by simp[Sig.setObj,Sig.bump,upd,h1,h2]}
 |cons y l=>
  have hw:IntKind.wrap .i64 ((((y::l).length:Nat):Int)-1)=((l.length:Nat):Int):=by
   rw[aay (by simp) (by simp at hl⊢;omega)];simp
  have hg:(y::l)[l.length]? =some (dM (y::l)):=by
   unfold dM
   rw[List.getLast?_eq_getElem?,List.length_cons,Nat.add_sub_cancel]
   cases hq:(y::l)[l.length]? with
   |none=>exact absurd (List.getElem?_eq_none_iff.1 hq) (by simp)
   |some x=>rfl
  have hia:indexAddrV Tryz.prog 30 (.lst c (y.v::l.map ah.v)) (.int .i64 ((l.length:Nat):Int))=some (.cref (dM (y::l)).c 0):=by
   show indexAddrV Tryz.prog 30 (.lst c ((y::l).map ah.v)) _=_
   rw[F9,if_pos (by rfl)]
   have e1:elemT Tryz.prog 30=some 29:=by kernel_rfl
   have e2':szT Tryz.prog 29=some 16:=by kernel_rfl
   have e3:idxL (y::l) ((l.length:Nat):Int)=some (dM (y::l)):=by unfold idxL;rw[if_pos ⟨by omega,by rw[List.length_cons];omega⟩,Int.toNat_natCast];exact hg
   rw[e1];simp only[Option.bind_some,e2',e3]
   rfl
  have htk:(y.v::l.map ah.v).take (((l.length:Nat):Int)).toNat=(y::l).dropLast.map ah.v:=by
   show ((y::l).map ah.v).take l.length=_
   rw[<-List.map_take,List.dropLast_eq_take,List.length_cons,Nat.add_sub_cancel]
  have hi0:(((((y::l).map ah.v).length:Nat):Int)==0)=false:=by simp;omega
  refine CW.condF (by simp only[go_sem,Nat.reduceBEq,Nat.reduceAdd, *];exact Is.rfl) (CW.skip (SeqQ.n ?_))
  refine CW.seq (CW.region ?_)
  refine OW.o1 (by rfl) (fun S=>by simp only[go_sem,Nat.reduceBEq,Nat.reduceAdd, *];with_reducible exact Is.rfl) ?_
  refine OW.o1 (by rfl) (fun S=>by simp only[go_sem,Nat.reduceBEq,Nat.reduceAdd, *];with_reducible exact Is.rfl) ?_
  refine OW.o1 (by rfl) (fun S=>by simp only[go_sem,Nat.reduceBEq,Nat.reduceAdd, *];with_reducible exact Is.rfl) ?_
  refine OW.o1 (by rfl) (fun S=>by simp only[go_sem,Nat.reduceBEq,Nat.reduceAdd, *];with_reducible exact Is.rfl) ?_
  refine OW.o1 (by rfl) (fun S=>by simp only[go_sem,Nat.reduceBEq,Nat.reduceAdd, *];with_reducible exact Is.rfl) ?_
  refine OW.o1 (by rfl) (fun S=>by simp only[go_sem,Nat.reduceBEq,Nat.reduceAdd, *];with_reducible exact Is.rfl) ?_
  refine OW.o1 (by rfl) (fun S=>by simp only[go_sem,Nat.reduceBEq,Nat.reduceAdd, *];with_reducible exact Is.rfl) ?_
  refine OW.o1 (by rfl) (fun S=>by simp only[go_sem,Nat.reduceBEq,Nat.reduceAdd, *];with_reducible exact Is.rfl) ?_
  refine OW.o1 (by rfl) (fun S=>by simp only[go_sem,Nat.reduceBEq,Nat.reduceAdd, *];with_reducible exact Is.rfl) ?_
  refine OW.o0 (by rfl) (fun S=>by simp only[go_sem,Nat.reduceBEq,Nat.reduceAdd, *];first|exact if_pos (iP _)| (rw[if_pos (by first| (simp;done)|rfl|exact⟨rfl,rfl⟩|exact⟨iP _,rfl⟩)];exact Is.rfl)) ?_
  refine OW.nil (SeqQ.n ?_)
  refine CW.seq (CW.region ?_)
  refine OW.o1 (by rfl) (fun S=>by simp only[go_sem,Nat.reduceBEq,Nat.reduceAdd, *];with_reducible exact Is.rfl) ?_
  refine OW.o1 (by rfl) (fun S=>by simp only[go_sem,Nat.reduceBEq,Nat.reduceAdd, *];with_reducible exact Is.rfl) ?_
  refine OW.o1 (by rfl) (fun S=>by simp only[go_sem,Nat.reduceBEq,Nat.reduceAdd, *];with_reducible exact Is.rfl) ?_
  refine OW.o1 (by rfl) (fun S=>by simp only[go_sem,Nat.reduceBEq,Nat.reduceAdd, *];with_reducible exact Is.rfl) ?_
  refine OW.o1 (by rfl) (fun S=>by simp only[go_sem,Nat.reduceBEq,Nat.reduceAdd, *];with_reducible exact Is.rfl) ?_
  refine OW.o1 (by rfl) (fun S=>by simp only[go_sem,Nat.reduceBEq,Nat.reduceAdd, *];with_reducible exact Is.rfl) ?_
  refine OW.o1 (by rfl) (fun S=>by simp only[go_sem,Nat.reduceBEq,Nat.reduceAdd, *];with_reducible exact Is.rfl) ?_
  refine OW.o1 (by rfl) (fun S=>by simp only[go_sem,Nat.reduceBEq,Nat.reduceAdd, *];with_reducible exact Is.rfl) ?_
  refine OW.o1 (by rfl) (fun S=>by simp only[go_sem,Nat.reduceBEq,Nat.reduceAdd, *];with_reducible exact Is.rfl) ?_
  refine OW.o1 (v:=.lst .full ((y::l).dropLast.map ah.v)) (by rfl) (fun S=>by
   rw[I7 (c:=c) (l:=y.v::l.map ah.v) (k:=((l.length:Nat):Int)) (by simp only[go_sem,Nat.reduceBEq, *]) (by simp only[go_sem,Nat.reduceBEq, *]) (by simp only[go_sem,Nat.reduceBEq, *]) e6 e2 (nU (mY (y::l))) (by omega) (by simp only[List.length_cons,ab3];omega),htk];exact Is.rfl) ?_
  refine OW.o1 (by rfl) (fun S=>by simp only[go_sem,Nat.reduceBEq,Nat.reduceAdd, *];with_reducible exact Is.rfl) ?_
  refine OW.o1 (by rfl) (fun S=>by simp only[go_sem,Nat.reduceBEq,Nat.reduceAdd, *];with_reducible exact Is.rfl) ?_
  refine OW.o0 (by rfl) (fun S=>by simp only[go_sem,Nat.reduceBEq,Nat.reduceAdd, *];first|exact if_pos (iP _)| (rw[if_pos (by first| (simp;done)|rfl|exact⟨rfl,rfl⟩|exact⟨iP _,rfl⟩)];exact Is.rfl)) ?_
  refine OW.nil (SeqQ.n ?_)
  refine CW.seq (CW.region ?_)
  refine OW.o1 (by rfl) (fun S=>by simp only[go_sem,Nat.reduceBEq,Nat.reduceAdd, *];with_reducible exact Is.rfl) ?_
  refine OW.o0 (by rfl) (fun S=>by simp only[go_sem,Nat.reduceBEq,Nat.reduceAdd, *];first|exact if_pos (iP _)| (rw[if_pos (by first| (simp;done)|rfl|exact⟨rfl,rfl⟩|exact⟨iP _,rfl⟩)];exact Is.rfl)) ?_
  refine OW.nil (SeqQ.n (CW.ret ?_))
  rw[hres]
  refine RetQ.one (by intro i h;cases h) (by simp only[resV,go_sem,Nat.reduceBEq, *];exact Is.rfl) ?_
  have hne:((d,2):Aq.Loc)≠(1,30):=by intro e;injection e with e1 e2;cases e2
  have Cq:((d,4):Aq.Loc)≠(1,30):=by intro e;injection e with e1 e2;cases e2
  have hne2:((d,4):Aq.Loc)≠(d,2):=by intro e;injection e with e1 e2;cases e2
  exact {v:=rfl,nx:=by rw[if_neg (by simp)];rfl,top:=rfl,lp:=rfl,ob:=by simp[Sig.setObj,Sig.bump,upd,hne.symm,Cq.symm],o2:=by simp[Sig.setObj,Sig.bump,upd],o4:=by simp[Sig.setObj,Sig.bump,upd,Cq,hne2],ot:=fun p h1 h2 h4=>by simp[Sig.setObj,Sig.bump,upd,h1,h2,h4]}
theorem P9 {d s:Nat} {c:Cap} {l:List ah} {sh:Bool} {σ:Sig} (hd:1<d) (hl:l.length<2^62) (h:σ.cellsAt (1,30) s=some [.lst c (l.map ah.v),.bool sh]):
 ∃σ1,(evl E 2).call 68 [.ref (1,30) s 0] d σ=some ((dM l).v,σ1)/\LQ σ d s c l sh (dM l).v σ1:=by
 obtain⟨n,v,σ1,h1,h2⟩:=aaA hd hl h
 have:=h2.v
 subst this
 exact⟨σ1,aaw (fn:=Tryz.f68) (c:=Tryz.f68.body.getD .skip) Tryz.func68 rfl (by kernel_rfl) h1,h2⟩
section
variable {fr:Fr} {σ:Sig}
theorem xF {all:List Oper} {base i:Nat} {o:Oper} {os:List Oper} {v:V} {σ1:Sig} {fs:List FF} {Q:Fr->Sig->Prop} (F:Foot) (ho:all[i]? =some o) (hw:aO all fr o=some true) (hF:footI E all fr o true=F) (hop:∀S,Is (opC E S fr σ (base+i) o) (some (v,fr,σ1)))
 (h:XW E all base (i+1) os (fr.put o.dst v) σ1 (fs++[⟨F,[]⟩]) Q):XW E all base i (o::os) fr σ fs Q:=XW.op ho hw (fun S=>hop S) (by rw[hF];exact h)
theorem mZ {all:List Oper} {d x ty:Nat} {pos:String} {aG:Array Edge}:footI E all fr ⟨some d,.move (.tmp x),ty,pos,aG,none⟩ true=⟨false,false,[.slot x],[.slot d]⟩:=rfl
theorem aaC {all:List Oper} {d x ty:Nat} {pos:String} {aG:Array Edge}:footI E all fr ⟨some d,.assign (.tmp x),ty,pos,aG,none⟩ true=⟨false,false,[.slot x],[.slot d]⟩:=rfl
theorem aaD {all:List Oper} {d t ty:Nat} {pos:String} {aG:Array Edge}:footI E all fr ⟨some d,.alloc t,ty,pos,aG,none⟩ true=⟨false,false,[],[.slot d,.obj (fr.d,d)]⟩:=rfl
theorem qD {all:List Oper} {d t x ty s off:Nat} {pos:String} {aG:Array Edge} {loc:Aq.Loc} (hx:fr.tm x= .ref loc s off):footI E all fr ⟨some d,.load t (.tmp x),ty,pos,aG,none⟩ true=⟨false,false,[.slot x,.obj loc],[.slot d]⟩:=by
 show (⟨false,false,[Key.slot x]++[]++refK (fr.tm x),[Key.slot d]++[]⟩:Foot)=_
 rw[hx];rfl
theorem Cr {all:List Oper} {t x y ty s off:Nat} {pos:String} {aG:Array Edge} {loc:Aq.Loc} (hx:fr.tm x= .ref loc s off):footI E all fr ⟨none,.store t (.tmp x) (.tmp y),ty,pos,aG,none⟩ true=⟨false,false,[.slot x,.slot y],[.obj loc]⟩:=by
 show (⟨false,false,[Key.slot x,Key.slot y]++[]++[],[]++refK (fr.tm x)⟩:Foot)=_
 rw[hx];rfl
theorem xP {all:List Oper} {base i:Nat} {d:Option Tmp} {f:Operand} {args:Array Operand} {tys:Array TypeId} {ty:TypeId} {pos:String} {aG:Array Edge} {os:List Oper} {fs:List FF} {Q:Fr->Sig->Prop} {g:FuncId} {a b az:List V} {v:V} (F:Foot)
 (hp:Pure E g az v) (hi:all[i]? =some ⟨d,.call ⟨.value f,args,tys⟩,ty,pos,aG,none⟩) (hf:Is (fr.ev E f) (.fn (.func g) a b)) (has:Is ((a++args.toList.map (fr.ev E)++b).mapM (closeV 20 σ)) (some az)) (hc:Is ((a++args.toList.map (fr.ev E)++b).all (fun x=>pclean (er x))||flat v) true)
 (hF:footI E all fr ⟨d,.call ⟨.value f,args,tys⟩,ty,pos,aG,none⟩ true=F) (h:XW E all base (i+1) os (fr.put d v) σ (fs++[⟨F,[]⟩]) Q) (hg:E.imp g=false:=by rfl) (aN:∀d',d=some d'->E.own g d'=false:=by intros;rfl):
 XW E all base i (⟨d,.call ⟨.value f,args,tys⟩,ty,pos,aG,none⟩::os) fr σ fs Q:=XW.call hi rfl rfl rfl hf hg has hp hc (by rw[hF];exact h) aN
theorem aaE {all:List Oper} {d g x t ty:Nat} {pos:String} {aG:Array Edge} (hi:E.imp g=false) (ho:∀d',some d=some d'->E.own g d'=false) (hx:pclean (er (fr.tm x))=true):footI E all fr ⟨some d,.call ⟨.value (.func g), #[.tmp x], #[t]⟩,ty,pos,aG,none⟩ true=⟨false,false,[.slot x],[.slot d]⟩:=by
 have hf:footS E fr ⟨some d,.call ⟨.value (.func g), #[.tmp x], #[t]⟩,ty,pos,aG,none⟩=rdF []:=by
  unfold footS
  have h1:dJ E fr ⟨some d,.call ⟨.value (.func g), #[.tmp x], #[t]⟩,ty,pos,aG,none⟩ (.func g)=false:=kV (g:=g) (a:=[]) (b:=[]) rfl ho
  have h2:fr.ev E (.func g)= .fn (.func g) [] []:=rfl
  have h4:(([]++(#[Operand.tmp x].toList.map (fr.ev E))++[]).all fun v=>pclean (er v))=true:=by
   show (pclean (er (fr.tm x))&& true)=true
   rw[hx];rfl
  simp only[h1,h2,hi,h4,if_true,if_false,aaB]
 show (⟨(footS E fr _).tAll,(footS E fr _).wAll,_++(footS E fr _).t,_++(footS E fr _).w⟩:Foot)=_
 rw[hf];rfl
theorem Qa {all:List Oper} {d g x y t u ty:Nat} {pos:String} {aG:Array Edge} (hi:E.imp g=false) (ho:∀d',some d=some d'->E.own g d'=false) (hx:pclean (er (fr.tm x))=true) (hy:pclean (er (fr.tm y))=true):footI E all fr ⟨some d,.call ⟨.value (.func g), #[.tmp x,.tmp y], #[t,u]⟩,ty,pos,aG,none⟩ true=⟨false,false,[.slot x,.slot y],[.slot d]⟩:=by
 have hf:footS E fr ⟨some d,.call ⟨.value (.func g), #[.tmp x,.tmp y], #[t,u]⟩,ty,pos,aG,none⟩=rdF []:=by
  unfold footS
  have h1:dJ E fr ⟨some d,.call ⟨.value (.func g), #[.tmp x,.tmp y], #[t,u]⟩,ty,pos,aG,none⟩ (.func g)=false:=kV (g:=g) (a:=[]) (b:=[]) rfl ho
  have h2:fr.ev E (.func g)= .fn (.func g) [] []:=rfl
  have h4:(([]++(#[Operand.tmp x,Operand.tmp y].toList.map (fr.ev E))++[]).all fun v=>pclean (er v))=true:=by
   show (pclean (er (fr.tm x))&& (pclean (er (fr.tm y))&& true))=true
   rw[hx,hy];rfl
  simp only[h1,h2,hi,h4,if_true,if_false,aaB]
 show (⟨(footS E fr _).tAll,(footS E fr _).wAll,_++(footS E fr _).t,_++(footS E fr _).w⟩:Foot)=_
 rw[hf];rfl
theorem xI {all:List Oper} {base i:Nat} {o:Oper} {os:List Oper} {fs:List FF} {Q:Fr->Sig->Prop} {c:Call} {f:Operand} {g:FuncId} {a b:List V} (F:Foot) (ex:List Aq.Key) (hi:all[i]? =some o) (hw:aO all fr o=some true) (ho:o.op= .call c)
 (aQ:c.callee= .value f) (hf:fr.ev E f= .fn (.func g) a b) (hg:E.imp g=true) (hF:footI E all fr o true=F) (hft:F.wAll=true)
 (hp:Imp E g (a++c.args.toList.map (fr.ev E)++b) (fr.d+1) σ (fun v σ1=>(∀L,bD L σ1 v=(v,σ1))/\(∀k∈ex,Ag k (fr,σ) (fr.put o.dst v,σ1))/\XW E all base (i+1) os (fr.put o.dst v) σ1 (fs++[⟨F,ex⟩]) Q)) (aN:∀d,o.dst=some d->E.own g d=false:=by intros;rfl):XW E all base i (o::os) fr σ fs Q:=
 XW.mJ ex hi hw ho aQ hf hg (by rw[hF];exact hft) (by rw[hF];exact hp) aN
theorem imp_mono {E:Env} {f:FuncId} {args:List V} {d:Nat} {σ:Sig} {Q Q':V->Sig->Prop} (h:Imp E f args d σ Q) (hq:∀v σ',Q v σ'->Q' v σ'):Imp E f args d σ Q':=
 let ⟨n,v,σ',h1,h2⟩:=h;⟨n,v,σ',h1,hq v σ' h2⟩
theorem aaF {all:List Oper} {base i d x s ty:Nat} {c:Cap} {l:List ah} {sh:Bool} {pos:String} {aG:Array Edge} {os:List Oper} {fs:List FF} {Q:Fr->Sig->Prop} (hd:1<fr.d+1) (hl:l.length<2^62) (hi:all[i]? =some ⟨some d,.call ⟨.value (.func 68), #[.tmp x], #[104]⟩,ty,pos,aG,none⟩)
 (hx:fr.tm x= .ref (1,30) s 0) (h30:σ.cellsAt (1,30) s=some [.lst c (l.map ah.v),.bool sh])
 (h:∀σ1,LQ σ (fr.d+1) s c l sh (dM l).v σ1->XW E all base (i+1) os (fr.put (some d) (dM l).v) σ1 (fs++[⟨⟨false,false,[.slot x],[.slot d,.obj (1,30),.obj (fr.d+1,2),.obj (fr.d+1,4),.nx]⟩,[]⟩]) Q):
 XW E all base i (⟨some d,.call ⟨.value (.func 68), #[.tmp x], #[104]⟩,ty,pos,aG,none⟩::os) fr σ fs Q:=by
 obtain⟨σ1,e1,q1⟩:=P9 hd hl h30
 have hargs:([]:List V)++(#[Operand.tmp x]:Array Operand).toList.map (fr.ev E)++[]=[.ref (1,30) s 0]:=by
  show [fr.tm x]=_
  rw[hx]
 refine XW.aao (g:=68) (a:=[]) (b:=[]) (v:=(dM l).v) (σ1:=σ1) ⟨false,false,[.slot x],[.slot d,.obj (1,30),.obj (fr.d+1,2),.obj (fr.d+1,4),.nx]⟩ hi rfl rfl rfl rfl rfl 2 rfl rfl ?_ ?_ ?_ ?_ ?_ ?_ (h σ1 q1)
 ·intro k hk
  have hk:k∈[Key.slot x]:=hk
  exact hk
 ·intro k hk
  have hk:k∈[Key.slot d]:=hk
  rw[aeH.1 hk];exact aeW ..
 ·intro t ht
  simp only[aeQ,Key.slot.injEq,reduceCtorEq,List.not_mem_nil,or_false] at ht
  rw[ht]
 ·intro hk
  simp at hk
 ·intro σ' hag
  have Qb:σ.obj (1,30)=σ'.obj (1,30):=hag (.obj (1,30)) (.inr (by simp)) rfl
  have g4:σ.obj (fr.d+1,4)=σ'.obj (fr.d+1,4):=hag (.obj (fr.d+1,4)) (.inr (by simp)) rfl
  obtain⟨gn,glp⟩:σ.next=σ'.next/\σ.loops=σ'.loops:=hag .nx (.inr (by simp)) rfl
  obtain⟨σ2,e2,q2⟩:=P9 hd hl ((iU (σ:=σ) (σ':=σ') Qb.symm).trans h30)
  refine⟨σ2,by rw[hargs];exact e2,fun k hk hs=>?_,fun k hk hs=>?_⟩
  ·simp only[aeQ,List.not_mem_nil,or_false] at hk
   rcases hk with rfl|rfl|rfl|rfl|rfl
   ·cases hs
   ·show σ1.obj _=σ2.obj _
    rw[q1.ob,q2.ob]
   ·show σ1.obj _=σ2.obj _
    rw[q1.o2,q2.o2,gn]
   ·show σ1.obj _=σ2.obj _
    rw[q1.o4,q2.o4,gn,g4]
   ·exact⟨by rw[q1.nx,q2.nx,gn],by rw[q1.lp,q2.lp,glp]⟩
  ·simp only[aeQ,List.not_mem_nil,or_false,not_or] at hk
   obtain⟨-,k1,k2,k3,k4⟩:=hk
   cases k with
   |slot t=>cases hs
   |rest=>cases hs
   |obj p=>exact(q2.ot p (fun e=>k1 (by rw[e])) (fun e=>k2 (by rw[e])) (fun e=>k3 (by rw[e]))).symm
   |top=>exact q2.top.symm
   |nx=>exact absurd rfl k4
 ·rw[hargs];exact e1
end
structure CS (σ:Sig) (s5 s11 s12 fq:Nat) (leaf:ah) (c:Cap) (l:List ah) (sh:Bool):Prop where
 c5:σ.cellsAt (1,5) s5=some leaf.c
 c11:σ.cellsAt (1,11) s11=some [.ref (1,30) fq 0]
 c12:σ.cellsAt (1,12) s12=some [.fn (.func 67) [] [.ref (1,5) s5 0,.ref (1,11) s11 0,.ref (1,12) s12 0]]
 Ct:σ.cellsAt (1,30) fq=some [.lst c (l.map ah.v),.bool sh]
theorem CS.mono {σ σ':Sig} {s5 s11 s12 fq:Nat} {leaf:ah} {c:Cap} {l:List ah} {sh:Bool} (h:CS σ s5 s11 s12 fq leaf c l sh) (hs:∀o,σ'.obj (1,o)=σ.obj (1,o)):CS σ' s5 s11 s12 fq leaf c l sh:=
 ⟨(iU (hs _)).trans h.c5,(iU (hs _)).trans h.c11,(iU (hs _)).trans h.c12,(iU (hs _)).trans h.Ct⟩
theorem gJ {a b o o':Nat} (h:a≠b):((a,o):Aq.Loc)≠(b,o'):=fun e=>h (congrArg Prod.fst e)
theorem aaH {node:ah×ah->Option ah} {split:Int->Option Int} (uI:∀a b x,node (a,b)=some x->Pure E 53 [a.v,b.v] x.v) (hsplit:∀p x,split p=some x->Pure E 50 [.int .i64 p] (.int .i64 x)) {leaf:ah} {s5 s11 s12 fq:Nat}:
 ∀(g:Nat) (i n:Int) (l:List ah) (sh:Bool) (r:ah×(List ah×Bool)),lG node split leaf g i n l sh=some r->l.length<2^62->∀(dd:Nat) (σ:Sig) (c:Cap),1<dd->CS σ s5 s11 s12 fq leaf c l sh->
  Imp E 67 [.int .i64 i,.int .i64 n,.ref (1,5) s5 0,.ref (1,11) s11 0,.ref (1,12) s12 0] dd σ (fun v σ'=>v=r.1.v/\(∃c',CS σ' s5 s11 s12 fq leaf c' r.2.1 r.2.2)/\∀a o,a<dd->(a,o)≠((1,30):Aq.Loc)->σ'.obj (a,o)=σ.obj (a,o)):=by
 intro g
 induction g with
 |zero=>intro i n l sh r h;cases h
 |succ g ih=>
  intro i n l sh r h hl dd σ c hdd hcs
  have hP:E.P=Tryz.prog:=rfl
  obtain⟨c5,c11,c12,Ct⟩:=hcs
  have hres:Tryz.f67.results.toList=[.cell 7 29]:=rfl
  have z1:zeroT Tryz.prog 29=some zD.v:=by kernel_rfl
  have sp0:∀x:ah,spliceL zD.c 0 x.c=x.c:=fun _=>by kernel_rfl
  have f1:∀a b:V,ldT Tryz.prog 109 [.fn (.func 67) [] [a,b,.ref (1,12) s12 0]] 0=some (.fn (.func 67) [] [a,b,.ref (1,12) s12 0]):=fun _ _=>rfl
  have p1:ldT Tryz.prog 104 [.ref (1,30) fq 0] 0=some (.ref (1,30) fq 0):=rfl
  refine Imp.of (fn:=Tryz.f67) (c:=Tryz.f67.body.getD .skip) Tryz.func67 rfl (by kernel_rfl) ?_
  generalize hfr:({d:=dd,om:=E.om 67,tm:=fun j=>([.int .i64 i,.int .i64 n,.ref (1,5) s5 0,.ref (1,11) s11 0,.ref (1,12) s12 0]:List V).getD j undefV}:Fr)=fr
  have a0:fr.tm 0= .int .i64 i:=by rw[<-hfr];rfl
  have a1:fr.tm 1= .int .i64 n:=by rw[<-hfr];rfl
  have a2:fr.tm 2= .ref (1,5) s5 0:=by rw[<-hfr];rfl
  have a3:fr.tm 3= .ref (1,11) s11 0:=by rw[<-hfr];rfl
  have a4:fr.tm 4= .ref (1,12) s12 0:=by rw[<-hfr];rfl
  have hd:fr.d=dd:=by rw[<-hfr]
  have hom:fr.om=false:=by rw[<-hfr];rfl
  clear hfr
  have n1:∀o o':Nat,((1,o):Aq.Loc)≠(dd,o'):=fun o o'=>gJ (by omega)
  have q7:gy (1,5) (dd,7)=false:=rfl
  refine CW.seq (CW.region ?_)
  refine OW.o1 (by rfl) (fun S=>by simp only[go_sem,Nat.reduceBEq,Nat.reduceAdd, *];with_reducible exact Is.rfl) ?_
  refine OW.nil (SeqQ.n ?_)
  refine CW.seq (CW.seq (CW.region ?_))
  refine OW.o1 (by rfl) (fun S=>by simp only[go_sem,Nat.reduceBEq,Nat.reduceAdd, *];with_reducible exact Is.rfl) ?_
  refine OW.o1 (by rfl) (fun S=>by simp only[go_sem,Nat.reduceBEq,Nat.reduceAdd, *];with_reducible exact Is.rfl) ?_
  refine OW.nil (SeqQ.n ?_)
  unfold lG at h
  cases hb:n==1 with
  |true=>
   rw[hb,cond_true] at h
   cases h
   refine CW.condT (by simp only[go_sem,Nat.reduceBEq,Nat.reduceAdd, *];exact Is.rfl) ?_
   refine CW.seq (CW.region ?_)
   refine OW.o1 (by rfl) (fun S=>by simp only[go_sem,Nat.reduceBEq,Nat.reduceAdd, *];with_reducible exact Is.rfl) ?_
   refine OW.o0 (by rfl) (fun S=>by simp only[go_sem,Nat.reduceBEq,Nat.reduceAdd, *];first|exact if_pos (iP _)| (rw[if_pos (by first| (simp;done)|rfl|exact⟨rfl,rfl⟩|exact⟨iP _,rfl⟩)];exact Is.rfl)) ?_
   refine OW.nil (SeqQ.n (CW.ret (SeqQ.r ?_)))
   rw[hres]
   refine RetQ.one (by intro i h;cases h) (by simp only[resV,go_sem,Nat.reduceBEq, *];exact Is.rfl) ?_
   refine⟨rfl,⟨c,CS.mono ⟨c5,c11,c12,Ct⟩ fun o=>?_⟩,fun a o h1 h2=>?_⟩
   ·simp[Sig.setObj,Sig.bump,upd,n1]
   ·have:((a,o):Aq.Loc)≠(dd,7):=gJ (by omega)
    simp[Sig.setObj,Sig.bump,upd,this]
  |false=>
   rw[hb,cond_false,iR] at h
   obtain⟨k,hk,h⟩:=h
   refine CW.condF (by simp only[go_sem,Nat.reduceBEq,Nat.reduceAdd, *];exact Is.rfl) (CW.skip (SeqQ.n ?_))
   refine CW.seq (CW.Cm (by kernel_rfl) ?_)
   refine xF _ rfl rfl mZ (fun S=>by simp only[go_sem,Nat.reduceBEq,Nat.reduceAdd, *];with_reducible exact Is.rfl) ?_
   refine xP _ (hsplit _ _ hk) rfl (by rfl) (by simp only[go_sem,Nat.reduceBEq,Nat.reduceAdd, *];exact Is.rfl) (by simp only[go_sem,Nat.reduceBEq,Nat.reduceAdd, *];exact Is.rfl) (aaE rfl (by intros;rfl) (by rfl)) ?_
   refine xF _ rfl rfl (qD (s:=s11) (off:=0) (loc:=(1,11)) a3) (fun S=>by simp only[go_sem,Nat.reduceBEq,Nat.reduceAdd, *];with_reducible exact Is.rfl) ?_
   refine aaF (l:=l) (sh:=sh) (c:=c) (s:=fq) (by show 1<fr.d+1;omega) hl rfl (by rfl) (by simp only[go_sem,Nat.reduceBEq,Nat.reduceAdd, *]) fun σ1 q1=>?_
   refine xF _ rfl rfl aaD (fun S=>by simp only[go_sem,Nat.reduceBEq,Nat.reduceAdd, *];with_reducible exact Is.rfl) ?_
   refine xF _ rfl rfl aaC (fun S=>by simp only[go_sem,Nat.reduceBEq,Nat.reduceAdd, *];with_reducible exact Is.rfl) ?_
   refine xF _ rfl rfl (Cr (off:=0) (loc:=(dd,9)) (by rfl)) (fun S=>by simp only[go_sem,Nat.reduceBEq,Nat.reduceAdd, *];first|exact if_pos (iP _)| (rw[if_pos (by first| (simp;done)|rfl|exact⟨rfl,rfl⟩|exact⟨iP _,rfl⟩)];exact Is.rfl)) ?_
   refine XW.nil (by kernel_rfl) (SeqQ.n ?_)
   have m7:((dd,7):Aq.Loc)≠(1,30):=gJ (by omega)
   have Qc:∀o,((dd,7):Aq.Loc)≠(fr.d+1,o):=fun o=>gJ (by omega)
   have m1:∀o o',((1,o):Aq.Loc)≠(fr.d+1,o'):=fun o o'=>gJ (by omega)
   have g7:=(iU (s:=σ.next) (q1.ot (dd,7) m7 (Qc 2) (Qc 4))).trans (show _=some zD.c by simp only[go_sem,Nat.reduceBEq, *])
   have g5:=(iU (s:=s5) (q1.ot (1,5) (by decide) (m1 5 2) (m1 5 4))).trans (show _=some leaf.c by simp only[go_sem,Nat.reduceBEq, *])
   have g11:=(iU (s:=s11) (q1.ot (1,11) (by decide) (m1 11 2) (m1 11 4))).trans (show _=some [.ref (1,30) fq 0] by simp only[go_sem,Nat.reduceBEq, *])
   have g12:=(iU (s:=s12) (q1.ot (1,12) (by decide) (m1 12 2) (m1 12 4))).trans (show _=some [.fn (.func 67) [] [.ref (1,5) s5 0,.ref (1,11) s11 0,.ref (1,12) s12 0]] by simp only[go_sem,Nat.reduceBEq, *])
   have Qb:σ1.cellsAt (1,30) fq=some [.lst (if l=[] then c else .full) (l.dropLast.map ah.v),.bool (sh||l.isEmpty)]:=by
    unfold Sig.cellsAt;rw[q1.ob];simp
   have Qd:∀a o,a<dd->(a,o)≠((1,30):Aq.Loc)->σ1.obj (a,o)=σ.obj (a,o):=fun a o h1 h2=>by
    rw[q1.ot (a,o) h2 (gJ (show a≠fr.d+1 by omega)) (gJ (show a≠fr.d+1 by omega))]
    have:((a,o):Aq.Loc)≠(dd,7):=gJ (by omega)
    simp[Sig.setObj,Sig.bump,upd,this]
   clear q1
   refine CW.seq (CW.seq (CW.region ?_))
   refine OW.o1 (by rfl) (fun S=>by simp only[go_sem,Nat.reduceBEq,Nat.reduceAdd, *];with_reducible exact Is.rfl) ?_
   refine OW.o1 (by rfl) (fun S=>by simp only[go_sem,Nat.reduceBEq,Nat.reduceAdd, *];with_reducible exact Is.rfl) ?_
   refine OW.o1 (by rfl) (fun S=>by simp only[go_sem,Nat.reduceBEq,Nat.reduceAdd, *];with_reducible exact Is.rfl) ?_
   refine OW.nil (SeqQ.n ?_)
   cases hik:decide (i<k) with
   |true=>
    rw[hik,cond_true,iR] at h
    obtain⟨q,hq,h⟩:=h
    rw[aat] at h
    obtain⟨x,hx,rfl⟩:=h
    refine CW.condT (by simp only[go_sem,Nat.reduceBEq,Nat.reduceAdd, *];exact Is.rfl) ?_
    refine CW.seq (CW.Cm (by kernel_rfl) ?_)
    refine xF _ rfl rfl (qD (s:=s12) (off:=0) (loc:=(1,12)) a4) (fun S=>by simp only[go_sem,Nat.reduceBEq,Nat.reduceAdd, *];with_reducible exact Is.rfl) ?_
    refine xF _ rfl rfl mZ (fun S=>by simp only[go_sem,Nat.reduceBEq,Nat.reduceAdd, *];with_reducible exact Is.rfl) ?_
    refine xF _ rfl rfl mZ (fun S=>by simp only[go_sem,Nat.reduceBEq,Nat.reduceAdd, *];with_reducible exact Is.rfl) ?_
    refine xI (g:=67) (a:=[]) (b:=[.ref (1,5) s5 0,.ref (1,11) s11 0,.ref (1,12) s12 0]) ⟨true,true,[.slot 20,.slot 21,.slot 22],[.slot 23]⟩ [.obj (dd,9)] rfl rfl rfl rfl (by rfl) rfl (by rfl) rfl ?_
    simp only[p8,nS,Bc,hd]
    change Imp E 67 [.int .i64 i,.int .i64 k,.ref (1,5) s5 0,.ref (1,11) s11 0,.ref (1,12) s12 0] (dd+1) _ _
    refine imp_mono (ih i k _ _ _ hq (by rw[List.length_dropLast];omega) (dd+1) _ (if l=[] then c else .full) (by omega) ⟨?_,?_,?_,?_⟩) ?_
    ·exact(by simp only[go_sem,Nat.reduceBEq,Nat.reduceAdd, *])
    ·exact(by simp only[go_sem,Nat.reduceBEq,Nat.reduceAdd, *])
    ·exact(by simp only[go_sem,Nat.reduceBEq,Nat.reduceAdd, *])
    ·exact(by simp only[go_sem,Nat.reduceBEq,Nat.reduceAdd, *])
    rintro v σ2 ⟨rfl,⟨c',hcs'⟩,hfr⟩
    have m9:((dd,9):Aq.Loc)≠(1,30):=gJ (by omega)
    have g9:=(iU (hfr dd 9 (by omega) m9)).trans (cells_eq _ _ _ _)
    have g7':=(iU (s:=σ.next) (hfr dd 7 (by omega) m7)).trans (show _=some zD.c by simp only[go_sem,Nat.reduceBEq, *])
    refine⟨fun _=>rfl,fun k hk=>?_,?_⟩
    ·rw[aeH.1 hk];exact(hfr dd 9 (by omega) m9).symm
    refine xF _ rfl rfl (qD (off:=0) (loc:=(dd,9)) (by rfl)) (fun S=>by simp only[go_sem,Nat.reduceBEq,Nat.reduceAdd, *];with_reducible exact Is.rfl) ?_
    refine xP _ (uI _ _ _ hx) rfl (by rfl) (by simp only[go_sem,Nat.reduceBEq,Nat.reduceAdd, *];exact Is.rfl) (by simp only[go_sem,Nat.reduceBEq,Nat.reduceAdd, *];exact Is.rfl) (Qa rfl (by intros;rfl) (ah.pc _) (ah.pc _)) ?_
    refine xF _ rfl rfl (Cr (off:=0) (loc:=(dd,7)) (by rfl)) (fun S=>by simp only[go_sem,Nat.reduceBEq,Nat.reduceAdd, *];first|exact if_pos (iP _)| (rw[if_pos (by first| (simp;done)|rfl|exact⟨rfl,rfl⟩|exact⟨iP _,rfl⟩)];exact Is.rfl)) ?_
    refine XW.nil ?_ (SeqQ.n (CW.ret (SeqQ.r ?_)))
    ·refine(congrArg (fun m=>oI m _) (show preM _=[0,0,0,7,0,31,63] by kernel_rfl)).trans ?_
     simp[oI,uE,List.range,List.range.loop,Key.eq,Key.state,Nat.testBit,Aq.gy,Aq.Key.eq,Aq.Key.state]
    rw[hres]
    refine RetQ.one (by intro i h;cases h) (by simp only[resV,go_sem,Nat.reduceBEq, *];exact Is.rfl) ?_
    refine⟨rfl,⟨c',hcs'.mono fun o=>?_⟩,fun a o h1 h2=>?_⟩
    ·simp[Sig.setObj,Sig.bump,upd,n1]
    ·have e1:((a,o):Aq.Loc)≠(dd,7):=gJ (by omega)
     have e2:((a,o):Aq.Loc)≠(dd,9):=gJ (by omega)
     have:=hfr a o (by omega) h2
     simp[Sig.setObj,Sig.bump,upd,e1,e2] at this⊢
     rw[this];exact Qd a o h1 h2
   |false=>
    rw[hik,cond_false,iR] at h
    obtain⟨q,hq,h⟩:=h
    rw[aat] at h
    obtain⟨x,hx,rfl⟩:=h
    refine CW.condF (by simp only[go_sem,Nat.reduceBEq,Nat.reduceAdd, *];exact Is.rfl) (CW.skip (SeqQ.n ?_))
    refine CW.seq (CW.Cm (by kernel_rfl) ?_)
    refine xF _ rfl rfl (qD (off:=0) (loc:=(dd,9)) (by rfl)) (fun S=>by simp only[go_sem,Nat.reduceBEq,Nat.reduceAdd, *];with_reducible exact Is.rfl) ?_
    refine xF _ rfl rfl (qD (s:=s12) (off:=0) (loc:=(1,12)) a4) (fun S=>by simp only[go_sem,Nat.reduceBEq,Nat.reduceAdd, *];with_reducible exact Is.rfl) ?_
    refine xF _ rfl rfl mZ (fun S=>by simp only[go_sem,Nat.reduceBEq,Nat.reduceAdd, *];with_reducible exact Is.rfl) ?_
    refine xF _ rfl rfl mZ (fun S=>by simp only[go_sem,Nat.reduceBEq,Nat.reduceAdd, *];with_reducible exact Is.rfl) ?_
    refine xF ⟨false,false,[.slot 28,.slot 29],[.slot 30]⟩ rfl rfl rfl (fun S=>by simp only[go_sem,Nat.reduceBEq,Nat.reduceAdd, *];with_reducible exact Is.rfl) ?_
    refine xF _ rfl rfl mZ (fun S=>by simp only[go_sem,Nat.reduceBEq,Nat.reduceAdd, *];with_reducible exact Is.rfl) ?_
    refine xF _ rfl rfl mZ (fun S=>by simp only[go_sem,Nat.reduceBEq,Nat.reduceAdd, *];with_reducible exact Is.rfl) ?_
    refine xF ⟨false,false,[.slot 31,.slot 32],[.slot 33]⟩ rfl rfl rfl (fun S=>by simp only[go_sem,Nat.reduceBEq,Nat.reduceAdd, *];with_reducible exact Is.rfl) ?_
    refine xI (g:=67) (a:=[]) (b:=[.ref (1,5) s5 0,.ref (1,11) s11 0,.ref (1,12) s12 0]) ⟨true,true,[.slot 27,.slot 30,.slot 33],[.slot 34]⟩ [.obj (dd,9)] rfl rfl rfl rfl (by rfl) rfl (by rfl) rfl ?_
    simp only[p8,nS,Bc,hd]
    change Imp E 67 [.int .i64 (IntKind.wrap .i64 (i-k)),.int .i64 (IntKind.wrap .i64 (n-k)),.ref (1,5) s5 0,.ref (1,11) s11 0,.ref (1,12) s12 0] (dd+1) _ _
    refine imp_mono (ih _ _ _ _ _ hq (by rw[List.length_dropLast];omega) (dd+1) _ (if l=[] then c else .full) (by omega) ⟨?_,?_,?_,?_⟩) ?_
    ·exact(by simp only[go_sem,Nat.reduceBEq,Nat.reduceAdd, *])
    ·exact(by simp only[go_sem,Nat.reduceBEq,Nat.reduceAdd, *])
    ·exact(by simp only[go_sem,Nat.reduceBEq,Nat.reduceAdd, *])
    ·exact(by simp only[go_sem,Nat.reduceBEq,Nat.reduceAdd, *])
    rintro v σ2 ⟨rfl,⟨c',hcs'⟩,hfr⟩
    have m9:((dd,9):Aq.Loc)≠(1,30):=gJ (by omega)
    have g7':=(iU (s:=σ.next) (hfr dd 7 (by omega) m7)).trans (show _=some zD.c by simp only[go_sem,Nat.reduceBEq, *])
    refine⟨fun _=>rfl,fun k hk=>?_,?_⟩
    ·rw[aeH.1 hk];exact(hfr dd 9 (by omega) m9).symm
    refine xP _ (uI _ _ _ hx) rfl (by rfl) (by simp only[go_sem,Nat.reduceBEq,Nat.reduceAdd, *];exact Is.rfl) (by simp only[go_sem,Nat.reduceBEq,Nat.reduceAdd, *];exact Is.rfl) (Qa rfl (by intros;rfl) (ah.pc _) (ah.pc _)) ?_
    refine xF _ rfl rfl (Cr (off:=0) (loc:=(dd,7)) (by rfl)) (fun S=>by simp only[go_sem,Nat.reduceBEq,Nat.reduceAdd, *];first|exact if_pos (iP _)| (rw[if_pos (by first| (simp;done)|rfl|exact⟨rfl,rfl⟩|exact⟨iP _,rfl⟩)];exact Is.rfl)) ?_
    refine XW.nil ?_ (SeqQ.n (CW.ret ?_))
    ·refine(congrArg (fun m=>oI m _) (show preM _=[0,0,0,0,12,0,0,96,254,511,1023] by kernel_rfl)).trans ?_
     simp[oI,uE,List.range,List.range.loop,Key.eq,Key.state,Nat.testBit,Aq.gy,Aq.Key.eq,Aq.Key.state]
    rw[hres]
    refine RetQ.one (by intro i h;cases h) (by simp only[resV,go_sem,Nat.reduceBEq, *];exact Is.rfl) ?_
    refine⟨rfl,⟨c',hcs'.mono fun o=>?_⟩,fun a o h1 h2=>?_⟩
    ·simp[Sig.setObj,Sig.bump,upd,n1]
    ·have e1:((a,o):Aq.Loc)≠(dd,7):=gJ (by omega)
     have e2:((a,o):Aq.Loc)≠(dd,9):=gJ (by omega)
     have:=hfr a o (by omega) h2
     simp[Sig.setObj,Sig.bump,upd,e1,e2] at this⊢
     rw[this];exact Qd a o h1 h2
theorem aaJ {s10 fq:Nat} {c:Cap} {l:List ah} {ok sh:Bool} {σ:Sig} (h10:σ.cellsAt (1,10) s10=some [.bool ok]) (h30:σ.cellsAt (1,30) fq=some [.lst c (l.map ah.v),.bool sh]):
 Imp E 66 [.ref (1,30) fq 0,.ref (1,10) s10 0] 2 σ (fun _ σ1=>σ1.cellsAt (1,10) s10=some [.bool (ok&& !sh&& l.isEmpty)]):=by
 have hP:E.P=Tryz.prog:=rfl
 have hmap:(l.map ah.v).length=l.length:=ab3 ..
 refine Imp.of (fn:=Tryz.f66) (c:=Tryz.f66.body.getD .skip) Tryz.func66 rfl (by kernel_rfl) ?_
 generalize hfr:({d:=2,om:=E.om 66,tm:=fun j=>([.ref (1,30) fq 0,.ref (1,10) s10 0]:List V).getD j undefV}:Fr)=fr
 have a0:fr.tm 0= .ref (1,30) fq 0:=by rw[<-hfr];rfl
 have a1:fr.tm 1= .ref (1,10) s10 0:=by rw[<-hfr];rfl
 have hom:fr.om=false:=by rw[<-hfr];rfl
 clear hfr
 have l0:∀c L sh,ldT Tryz.prog 30 [V.lst c L,.bool sh] 0=some (.lst c L):=fun _ _ _=>by kernel_rfl
 have l1:∀c L sh,ldT Tryz.prog 4 [V.lst c L,.bool sh] 1=some (.bool sh):=fun _ _ _=>by kernel_rfl
 have l2:∀b:Bool,ldT Tryz.prog 4 [V.bool b] 0=some (.bool b):=fun _=>by kernel_rfl
 have hres:Tryz.f66.results.toList=[]:=rfl
 have hle:((((l.map ah.v).length:Nat):Int)==0)=l.isEmpty:=by cases l<;>simp<;>omega
 refine CW.region ?_
 refine OW.o1 (by rfl) (fun S=>by simp only[go_sem,Nat.reduceBEq,Nat.reduceAdd, *];with_reducible exact Is.rfl) ?_
 refine OW.o1 (by rfl) (fun S=>by simp only[go_sem,Nat.reduceBEq,Nat.reduceAdd, *];with_reducible exact Is.rfl) ?_
 refine OW.o1 (by rfl) (fun S=>by simp only[go_sem,Nat.reduceBEq,Nat.reduceAdd, *];with_reducible exact Is.rfl) ?_
 refine OW.o1 (by rfl) (fun S=>by simp only[go_sem,Nat.reduceBEq,Nat.reduceAdd, *];with_reducible exact Is.rfl) ?_
 refine OW.o1 (by rfl) (fun S=>by simp only[go_sem,Nat.reduceBEq,Nat.reduceAdd, *];with_reducible exact Is.rfl) ?_
 cases ok with
 |false=>
  refine OW.s1 (by simp only[go_sem,Nat.reduceBEq,Nat.reduceAdd, *];with_reducible exact Is.rfl) ?_
  refine OW.s1 (by simp only[go_sem,Nat.reduceBEq,Nat.reduceAdd, *];with_reducible exact Is.rfl) ?_
  refine OW.s1 (by simp only[go_sem,Nat.reduceBEq,Nat.reduceAdd, *];with_reducible exact Is.rfl) ?_
  refine OW.s1 (by simp only[go_sem,Nat.reduceBEq,Nat.reduceAdd, *];with_reducible exact Is.rfl) ?_
  refine OW.s1 (by simp only[go_sem,Nat.reduceBEq,Nat.reduceAdd, *];with_reducible exact Is.rfl) ?_
  refine OW.o1 (by rfl) (fun S=>by rw[iH _ _ _ (by simp only[go_sem,Nat.reduceBEq, *])];simp only[go_sem,Nat.reduceBEq,Nat.reduceAdd, *];with_reducible exact Is.rfl) ?_
  refine OW.o1 (by rfl) (fun S=>by simp only[go_sem,Nat.reduceBEq,Nat.reduceAdd, *];with_reducible exact Is.rfl) ?_
  refine OW.s1 (by simp only[go_sem,Nat.reduceBEq,Nat.reduceAdd, *];with_reducible exact Is.rfl) ?_
  refine OW.s1 (by simp only[go_sem,Nat.reduceBEq,Nat.reduceAdd, *];with_reducible exact Is.rfl) ?_
  refine OW.s1 (by simp only[go_sem,Nat.reduceBEq,Nat.reduceAdd, *];with_reducible exact Is.rfl) ?_
  refine OW.s1 (by simp only[go_sem,Nat.reduceBEq,Nat.reduceAdd, *];with_reducible exact Is.rfl) ?_
  refine OW.s1 (by simp only[go_sem,Nat.reduceBEq,Nat.reduceAdd, *];with_reducible exact Is.rfl) ?_
  refine OW.s1 (by simp only[go_sem,Nat.reduceBEq,Nat.reduceAdd, *];with_reducible exact Is.rfl) ?_
  refine OW.o1 (by rfl) (fun S=>by rw[iH _ _ _ (by simp only[go_sem,Nat.reduceBEq, *])];simp only[go_sem,Nat.reduceBEq,Nat.reduceAdd, *];with_reducible exact Is.rfl) ?_
  refine OW.o1 (by rfl) (fun S=>by simp only[go_sem,Nat.reduceBEq,Nat.reduceAdd, *];with_reducible exact Is.rfl) ?_
  refine OW.o0 (by rfl) (fun S=>by simp only[go_sem,Nat.reduceBEq,Nat.reduceAdd, *];first|exact if_pos (iP _)| (rw[if_pos (by first| (simp;done)|rfl|exact⟨rfl,rfl⟩|exact⟨iP _,rfl⟩)];exact Is.rfl)) ?_
  refine OW.nil ?_
  rw[hres]
  exact⟨[],rfl,by simp only[go_sem,Nat.reduceBEq, *];rfl⟩
 |true=>
  refine OW.o1 (by simp only[go_sem,Nat.reduceBEq,Nat.reduceAdd, *];with_reducible exact Is.rfl) (fun S=>by simp only[go_sem,Nat.reduceBEq,Nat.reduceAdd, *];with_reducible exact Is.rfl) ?_
  refine OW.o1 (by simp only[go_sem,Nat.reduceBEq,Nat.reduceAdd, *];with_reducible exact Is.rfl) (fun S=>by simp only[go_sem,Nat.reduceBEq,Nat.reduceAdd, *];with_reducible exact Is.rfl) ?_
  refine OW.o1 (by simp only[go_sem,Nat.reduceBEq,Nat.reduceAdd, *];with_reducible exact Is.rfl) (fun S=>by simp only[go_sem,Nat.reduceBEq,Nat.reduceAdd, *];with_reducible exact Is.rfl) ?_
  refine OW.o1 (by simp only[go_sem,Nat.reduceBEq,Nat.reduceAdd, *];with_reducible exact Is.rfl) (fun S=>by simp only[go_sem,Nat.reduceBEq,Nat.reduceAdd, *];with_reducible exact Is.rfl) ?_
  refine OW.o1 (by simp only[go_sem,Nat.reduceBEq,Nat.reduceAdd, *];with_reducible exact Is.rfl) (fun S=>by simp only[go_sem,Nat.reduceBEq,Nat.reduceAdd, *];with_reducible exact Is.rfl) ?_
  cases sh with
  |true=>
   refine OW.o1 (by rfl) (fun S=>by rw[kr _ _ _ (by simp only[go_sem,Nat.reduceBEq, *])];simp only[go_sem,Nat.reduceBEq,Nat.reduceAdd, *];with_reducible exact Is.rfl) ?_
   refine OW.o1 (by rfl) (fun S=>by simp only[go_sem,Nat.reduceBEq,Nat.reduceAdd, *];with_reducible exact Is.rfl) ?_
   refine OW.s1 (by simp only[go_sem,Nat.reduceBEq,Nat.reduceAdd, *];with_reducible exact Is.rfl) ?_
   refine OW.s1 (by simp only[go_sem,Nat.reduceBEq,Nat.reduceAdd, *];with_reducible exact Is.rfl) ?_
   refine OW.s1 (by simp only[go_sem,Nat.reduceBEq,Nat.reduceAdd, *];with_reducible exact Is.rfl) ?_
   refine OW.s1 (by simp only[go_sem,Nat.reduceBEq,Nat.reduceAdd, *];with_reducible exact Is.rfl) ?_
   refine OW.s1 (by simp only[go_sem,Nat.reduceBEq,Nat.reduceAdd, *];with_reducible exact Is.rfl) ?_
   refine OW.s1 (by simp only[go_sem,Nat.reduceBEq,Nat.reduceAdd, *];with_reducible exact Is.rfl) ?_
   refine OW.o1 (by rfl) (fun S=>by rw[iH _ _ _ (by simp only[go_sem,Nat.reduceBEq, *])];simp only[go_sem,Nat.reduceBEq,Nat.reduceAdd, *];with_reducible exact Is.rfl) ?_
   refine OW.o1 (by rfl) (fun S=>by simp only[go_sem,Nat.reduceBEq,Nat.reduceAdd, *];with_reducible exact Is.rfl) ?_
   refine OW.o0 (by rfl) (fun S=>by simp only[go_sem,Nat.reduceBEq,Nat.reduceAdd, *];first|exact if_pos (iP _)| (rw[if_pos (by first| (simp;done)|rfl|exact⟨rfl,rfl⟩|exact⟨iP _,rfl⟩)];exact Is.rfl)) ?_
   refine OW.nil ?_
   rw[hres]
   exact⟨[],rfl,by simp only[go_sem,Nat.reduceBEq, *];rfl⟩
  |false=>
   refine OW.o1 (by rfl) (fun S=>by rw[kr _ _ _ (by simp only[go_sem,Nat.reduceBEq, *])];simp only[go_sem,Nat.reduceBEq,Nat.reduceAdd, *];with_reducible exact Is.rfl) ?_
   refine OW.o1 (by rfl) (fun S=>by simp only[go_sem,Nat.reduceBEq,Nat.reduceAdd, *];with_reducible exact Is.rfl) ?_
   refine OW.o1 (by simp only[go_sem,Nat.reduceBEq,Nat.reduceAdd, *];with_reducible exact Is.rfl) (fun S=>by simp only[go_sem,Nat.reduceBEq,Nat.reduceAdd, *];with_reducible exact Is.rfl) ?_
   refine OW.o1 (by simp only[go_sem,Nat.reduceBEq,Nat.reduceAdd, *];with_reducible exact Is.rfl) (fun S=>by simp only[go_sem,Nat.reduceBEq,Nat.reduceAdd, *];with_reducible exact Is.rfl) ?_
   refine OW.o1 (by simp only[go_sem,Nat.reduceBEq,Nat.reduceAdd, *];with_reducible exact Is.rfl) (fun S=>by simp only[go_sem,Nat.reduceBEq,Nat.reduceAdd, *];with_reducible exact Is.rfl) ?_
   refine OW.o1 (by simp only[go_sem,Nat.reduceBEq,Nat.reduceAdd, *];with_reducible exact Is.rfl) (fun S=>by simp only[go_sem,Nat.reduceBEq,Nat.reduceAdd, *];with_reducible exact Is.rfl) ?_
   refine OW.o1 (by simp only[go_sem,Nat.reduceBEq,Nat.reduceAdd, *];with_reducible exact Is.rfl) (fun S=>by simp only[go_sem,Nat.reduceBEq,Nat.reduceAdd, *];with_reducible exact Is.rfl) ?_
   refine OW.o1 (by simp only[go_sem,Nat.reduceBEq,Nat.reduceAdd, *];with_reducible exact Is.rfl) (fun S=>by simp only[go_sem,Nat.reduceBEq,Nat.reduceAdd, *];with_reducible exact Is.rfl) ?_
   refine OW.o1 (by rfl) (fun S=>by rw[kr _ _ _ (by simp only[go_sem,Nat.reduceBEq, *])];simp only[go_sem,Nat.reduceBEq,Nat.reduceAdd, *];with_reducible exact Is.rfl) ?_
   refine OW.o1 (by rfl) (fun S=>by simp only[go_sem,Nat.reduceBEq,Nat.reduceAdd, *];with_reducible exact Is.rfl) ?_
   refine OW.o0 (by rfl) (fun S=>by simp only[go_sem,Nat.reduceBEq,Nat.reduceAdd, *];first|exact if_pos (iP _)| (rw[if_pos (by first| (simp;done)|rfl|exact⟨rfl,rfl⟩|exact⟨iP _,rfl⟩)];exact Is.rfl)) ?_
   refine OW.nil ?_
   rw[hres]
   rw[hmap] at hle
   exact⟨[],rfl,by simp only[go_sem,Nat.reduceBEq, *];rw[<-hle];rfl⟩
theorem jr.r {E:Env} {fr:Fr} {σ:Sig} {b:Code} {Q:Ex->Fr->Sig->Dq->Prop} (h:Q .ret fr σ none):jr E b Q .ret fr σ:=h
theorem aaK {E:Env} {S:bH} {fr:Fr} {σ:Sig} {ops:List Oper} {base:Nat} {o:Oper} {v:V} (h0:ops[0]? =some o) (hw:aO ops fr o=some true) (hop:Is (opC E S fr σ (base+0) o) (some (v,fr,σ))):opsL E S ops base (List.range 1) fr σ=some (fr.put o.dst v,σ):=by
 show (bO E S ops base 0 fr σ).bind (fun (fr,σ)=>opsL E S ops base [] fr σ)=_
 rw[lK h0 hw hop];rfl
theorem Qe {E:Env} {S:bH} {fr:Fr} {σ:Sig} {st ty:Nat} {pos:String} {aG:Array Edge} {gd:Option (Nat×Bool)} {d:Option Nat} {f:FuncId} {a b:List Operand}:opC E S fr σ st ⟨d,.makeFunc (.func f) a.toArray b.toArray,ty,pos,aG,gd⟩=some (.fn (.func f) (a.map (fr.ev E)) (b.map (fr.ev E)),fr,σ):=rfl
theorem aaL {E:Env} {σ:Sig} {f:FuncId} {args:List V} {d:Nat} {fn:Func} {c:Code} {R:V->Sig->Prop} (hf:E.P.funcs[f]? =some fn) (hb:fn.body=some c) (hok:(decide (args.length<=fn.ntmps)&& bE fn.ntmps c&& bU c)=true)
 (h:DW E c {d:=d,om:=E.om f,tm:=fun i=>args.getD i undefV} σ (fun e aD σ1 q=>(e= .normal\/e= .ret)/\q=none/\∃vs,fn.results.toList.mapM (resV E aD σ1)=some vs/\R (oK vs) σ1)):
 ∃m v σ',qC E (evl E m) (evl E (m+1)) f args d σ=some (v,σ')/\R v σ':=by
 obtain⟨n,e,aD,σ1,q,h1,he,rfl,vs,h3,h4⟩:=h
 have hok':args.length<=fn.ntmps/\bE fn.ntmps c/\bU c=true:=by
  simp only[RS,decide_eq_true_eq] at hok
  exact⟨hok.1.1,hok.1.2,hok.2⟩
 refine⟨n,oK vs,σ1,?_,h4⟩
 unfold qC
 rw[hf,Option.bind_some,hb,Option.bind_some,if_pos hok',h1,Option.bind_some]
 rcases he with rfl|rfl
 ·dsimp only
  rw[Option.bind_some,h3];rfl
 ·dsimp only
  rw[Option.bind_some,h3];rfl
theorem Qf (x y:ah):gP Tryz.prog .eql 29 x.v y.v=some (.bool (lH x y)):=by cases x;cases y;kernel_rfl
theorem aaM {node:ah×ah->Option ah} {split:Int->Option Int} (uI:∀a b x,node (a,b)=some x->Pure E 53 [a.v,b.v] x.v) (hsplit:∀p x,split p=some x->Pure E 50 [.int .i64 p] (.int .i64 x)) {leaf root:ah} {i n:Int} {l:List ah} {b:Bool} (hl:l.length<2^62) (h:uz node split leaf i n l root=some b):
 ∃m v σ',qC E (evl E m) (evl E (m+1)) 32 [leaf.v,.int .i64 i,.int .i64 n,lv ah.v l,root.v] 1 Sig.init=some (v,σ')/\v= .bool b:=by
 have hP:E.P=Tryz.prog:=rfl
 have hres:Tryz.f32.results.toList=[.cell 10 4]:=rfl
 have l2:∀b:Bool,ldT Tryz.prog 4 [V.bool b] 0=some (.bool b):=fun _=>by kernel_rfl
 have z4:zeroT Tryz.prog 4=some (.bool false):=by kernel_rfl
 have fz5:frzB E 29 (some 5)=false:=rfl
 have fz9:frzB E 29 (some 9)=false:=rfl
 cases he:(decide (n<1)||decide (n>1099511627776)||decide (i<0)||decide (i>=n)) with
 |true=>
  unfold uz at h
  rw[he,cond_true] at h
  cases h
  refine aaL (fn:=Tryz.f32) (c:=Tryz.f32.body.getD .skip) (R:=fun v _=>v= .bool false) Tryz.func32 rfl (by kernel_rfl) ?_
  generalize hfr:({d:=1,om:=E.om 32,tm:=fun j=>([leaf.v,.int .i64 i,.int .i64 n,lv ah.v l,root.v]:List V).getD j undefV}:Fr)=fr
  have a0:fr.tm 0=leaf.v:=by rw[<-hfr];rfl
  have a1:fr.tm 1= .int .i64 i:=by rw[<-hfr];rfl
  have a2:fr.tm 2= .int .i64 n:=by rw[<-hfr];rfl
  have a3:fr.tm 3=lv ah.v l:=by rw[<-hfr];rfl
  have a4:fr.tm 4=root.v:=by rw[<-hfr];rfl
  have hd:fr.d=1:=by rw[<-hfr]
  have hom:fr.om=false:=by rw[<-hfr];rfl
  clear hfr
  refine DW.seq (CW.region ?_)
  refine OW.o1 (by rfl) (fun S=>by simp only[go_sem,Nat.reduceBEq,Nat.reduceAdd, *];with_reducible exact Is.rfl) ?_
  refine OW.o1 (by rfl) (fun S=>by simp only[go_sem,Nat.reduceBEq,Nat.reduceAdd, *];with_reducible exact Is.rfl) ?_
  refine OW.o1 (by rfl) (fun S=>by simp only[go_sem,Nat.reduceBEq,Nat.reduceAdd, *];with_reducible exact Is.rfl) ?_
  refine OW.nil (jr.n ?_)
  refine DW.seq (CW.seq (CW.region ?_))
  cases h1:decide (n<1) with
  |true=>
   refine OW.o1 (by rfl) (fun S=>by simp only[go_sem,Nat.reduceBEq,Nat.reduceAdd, *];with_reducible exact Is.rfl) ?_
   refine OW.o1 (by rfl) (fun S=>by simp only[go_sem,Nat.reduceBEq,Nat.reduceAdd, *];with_reducible exact Is.rfl) ?_
   refine OW.o1 (by rfl) (fun S=>by simp only[go_sem,Nat.reduceBEq,Nat.reduceAdd, *];with_reducible exact Is.rfl) ?_
   refine OW.s1 (by simp only[go_sem,Nat.reduceBEq,Nat.reduceAdd, *];with_reducible exact Is.rfl) ?_
   refine OW.s1 (by simp only[go_sem,Nat.reduceBEq,Nat.reduceAdd, *];with_reducible exact Is.rfl) ?_
   refine OW.o1 (by rfl) (fun S=>by rw[kr _ _ _ (by simp only[go_sem,Nat.reduceBEq, *])];simp only[go_sem,Nat.reduceBEq,Nat.reduceAdd, *];with_reducible exact Is.rfl) ?_
   refine OW.o1 (by rfl) (fun S=>by simp only[go_sem,Nat.reduceBEq,Nat.reduceAdd, *];with_reducible exact Is.rfl) ?_
   refine OW.s1 (by simp only[go_sem,Nat.reduceBEq,Nat.reduceAdd, *];with_reducible exact Is.rfl) ?_
   refine OW.s1 (by simp only[go_sem,Nat.reduceBEq,Nat.reduceAdd, *];with_reducible exact Is.rfl) ?_
   refine OW.o1 (by rfl) (fun S=>by rw[kr _ _ _ (by simp only[go_sem,Nat.reduceBEq, *])];simp only[go_sem,Nat.reduceBEq,Nat.reduceAdd, *];with_reducible exact Is.rfl) ?_
   refine OW.o1 (by rfl) (fun S=>by simp only[go_sem,Nat.reduceBEq,Nat.reduceAdd, *];with_reducible exact Is.rfl) ?_
   refine OW.s1 (by simp only[go_sem,Nat.reduceBEq,Nat.reduceAdd, *];with_reducible exact Is.rfl) ?_
   refine OW.s1 (by simp only[go_sem,Nat.reduceBEq,Nat.reduceAdd, *];with_reducible exact Is.rfl) ?_
   refine OW.s1 (by simp only[go_sem,Nat.reduceBEq,Nat.reduceAdd, *];with_reducible exact Is.rfl) ?_
   refine OW.o1 (by rfl) (fun S=>by rw[kr _ _ _ (by simp only[go_sem,Nat.reduceBEq, *])];simp only[go_sem,Nat.reduceBEq,Nat.reduceAdd, *];with_reducible exact Is.rfl) ?_
   refine OW.nil (SeqQ.n (CW.condT (by simp only[go_sem,Nat.reduceBEq,Nat.reduceAdd, *];exact Is.rfl) (CW.seq (CW.region ?_))))
   refine OW.o0 (by rfl) (fun S=>by simp only[go_sem,Nat.reduceBEq,Nat.reduceAdd, *];first|exact if_pos (iP _)| (rw[if_pos (by first| (simp;done)|rfl|exact⟨rfl,rfl⟩|exact⟨iP _,rfl⟩)];exact Is.rfl)) ?_
   refine OW.nil (SeqQ.n (CW.ret (jr.r ?_)))
   refine⟨.inr rfl,rfl,[.bool false],?_,rfl⟩
   rw[hres]
   simp only[aew,List.mapM_nil,resV,go_sem,Nat.reduceBEq, *];rfl
  |false=>
   cases h2:decide (n>1099511627776) with
   |true=>
    refine OW.o1 (by rfl) (fun S=>by simp only[go_sem,Nat.reduceBEq,Nat.reduceAdd, *];with_reducible exact Is.rfl) ?_
    refine OW.o1 (by rfl) (fun S=>by simp only[go_sem,Nat.reduceBEq,Nat.reduceAdd, *];with_reducible exact Is.rfl) ?_
    refine OW.o1 (by rfl) (fun S=>by simp only[go_sem,Nat.reduceBEq,Nat.reduceAdd, *];with_reducible exact Is.rfl) ?_
    refine OW.o1 (by simp only[go_sem,Nat.reduceBEq,Nat.reduceAdd, *];with_reducible exact Is.rfl) (fun S=>by simp only[go_sem,Nat.reduceBEq,Nat.reduceAdd, *];with_reducible exact Is.rfl) ?_
    refine OW.o1 (by simp only[go_sem,Nat.reduceBEq,Nat.reduceAdd, *];with_reducible exact Is.rfl) (fun S=>by simp only[go_sem,Nat.reduceBEq,Nat.reduceAdd, *];with_reducible exact Is.rfl) ?_
    refine OW.o1 (by rfl) (fun S=>by rw[iH _ _ _ (by simp only[go_sem,Nat.reduceBEq, *])];simp only[go_sem,Nat.reduceBEq,Nat.reduceAdd, *];with_reducible exact Is.rfl) ?_
    refine OW.o1 (by rfl) (fun S=>by simp only[go_sem,Nat.reduceBEq,Nat.reduceAdd, *];with_reducible exact Is.rfl) ?_
    refine OW.s1 (by simp only[go_sem,Nat.reduceBEq,Nat.reduceAdd, *];with_reducible exact Is.rfl) ?_
    refine OW.s1 (by simp only[go_sem,Nat.reduceBEq,Nat.reduceAdd, *];with_reducible exact Is.rfl) ?_
    refine OW.o1 (by rfl) (fun S=>by rw[kr _ _ _ (by simp only[go_sem,Nat.reduceBEq, *])];simp only[go_sem,Nat.reduceBEq,Nat.reduceAdd, *];with_reducible exact Is.rfl) ?_
    refine OW.o1 (by rfl) (fun S=>by simp only[go_sem,Nat.reduceBEq,Nat.reduceAdd, *];with_reducible exact Is.rfl) ?_
    refine OW.s1 (by simp only[go_sem,Nat.reduceBEq,Nat.reduceAdd, *];with_reducible exact Is.rfl) ?_
    refine OW.s1 (by simp only[go_sem,Nat.reduceBEq,Nat.reduceAdd, *];with_reducible exact Is.rfl) ?_
    refine OW.s1 (by simp only[go_sem,Nat.reduceBEq,Nat.reduceAdd, *];with_reducible exact Is.rfl) ?_
    refine OW.o1 (by rfl) (fun S=>by rw[kr _ _ _ (by simp only[go_sem,Nat.reduceBEq, *])];simp only[go_sem,Nat.reduceBEq,Nat.reduceAdd, *];with_reducible exact Is.rfl) ?_
    refine OW.nil (SeqQ.n (CW.condT (by simp only[go_sem,Nat.reduceBEq,Nat.reduceAdd, *];exact Is.rfl) (CW.seq (CW.region ?_))))
    refine OW.o0 (by rfl) (fun S=>by simp only[go_sem,Nat.reduceBEq,Nat.reduceAdd, *];first|exact if_pos (iP _)| (rw[if_pos (by first| (simp;done)|rfl|exact⟨rfl,rfl⟩|exact⟨iP _,rfl⟩)];exact Is.rfl)) ?_
    refine OW.nil (SeqQ.n (CW.ret (jr.r ?_)))
    refine⟨.inr rfl,rfl,[.bool false],?_,rfl⟩
    rw[hres]
    simp only[aew,List.mapM_nil,resV,go_sem,Nat.reduceBEq, *];rfl
   |false=>
    cases h3:decide (i<0) with
    |true=>
     refine OW.o1 (by rfl) (fun S=>by simp only[go_sem,Nat.reduceBEq,Nat.reduceAdd, *];with_reducible exact Is.rfl) ?_
     refine OW.o1 (by rfl) (fun S=>by simp only[go_sem,Nat.reduceBEq,Nat.reduceAdd, *];with_reducible exact Is.rfl) ?_
     refine OW.o1 (by rfl) (fun S=>by simp only[go_sem,Nat.reduceBEq,Nat.reduceAdd, *];with_reducible exact Is.rfl) ?_
     refine OW.o1 (by simp only[go_sem,Nat.reduceBEq,Nat.reduceAdd, *];with_reducible exact Is.rfl) (fun S=>by simp only[go_sem,Nat.reduceBEq,Nat.reduceAdd, *];with_reducible exact Is.rfl) ?_
     refine OW.o1 (by simp only[go_sem,Nat.reduceBEq,Nat.reduceAdd, *];with_reducible exact Is.rfl) (fun S=>by simp only[go_sem,Nat.reduceBEq,Nat.reduceAdd, *];with_reducible exact Is.rfl) ?_
     refine OW.o1 (by rfl) (fun S=>by rw[iH _ _ _ (by simp only[go_sem,Nat.reduceBEq, *])];simp only[go_sem,Nat.reduceBEq,Nat.reduceAdd, *];with_reducible exact Is.rfl) ?_
     refine OW.o1 (by rfl) (fun S=>by simp only[go_sem,Nat.reduceBEq,Nat.reduceAdd, *];with_reducible exact Is.rfl) ?_
     refine OW.o1 (by simp only[go_sem,Nat.reduceBEq,Nat.reduceAdd, *];with_reducible exact Is.rfl) (fun S=>by simp only[go_sem,Nat.reduceBEq,Nat.reduceAdd, *];with_reducible exact Is.rfl) ?_
     refine OW.o1 (by simp only[go_sem,Nat.reduceBEq,Nat.reduceAdd, *];with_reducible exact Is.rfl) (fun S=>by simp only[go_sem,Nat.reduceBEq,Nat.reduceAdd, *];with_reducible exact Is.rfl) ?_
     refine OW.o1 (by rfl) (fun S=>by rw[iH _ _ _ (by simp only[go_sem,Nat.reduceBEq, *])];simp only[go_sem,Nat.reduceBEq,Nat.reduceAdd, *];with_reducible exact Is.rfl) ?_
     refine OW.o1 (by rfl) (fun S=>by simp only[go_sem,Nat.reduceBEq,Nat.reduceAdd, *];with_reducible exact Is.rfl) ?_
     refine OW.s1 (by simp only[go_sem,Nat.reduceBEq,Nat.reduceAdd, *];with_reducible exact Is.rfl) ?_
     refine OW.s1 (by simp only[go_sem,Nat.reduceBEq,Nat.reduceAdd, *];with_reducible exact Is.rfl) ?_
     refine OW.s1 (by simp only[go_sem,Nat.reduceBEq,Nat.reduceAdd, *];with_reducible exact Is.rfl) ?_
     refine OW.o1 (by rfl) (fun S=>by rw[kr _ _ _ (by simp only[go_sem,Nat.reduceBEq, *])];simp only[go_sem,Nat.reduceBEq,Nat.reduceAdd, *];with_reducible exact Is.rfl) ?_
     refine OW.nil (SeqQ.n (CW.condT (by simp only[go_sem,Nat.reduceBEq,Nat.reduceAdd, *];exact Is.rfl) (CW.seq (CW.region ?_))))
     refine OW.o0 (by rfl) (fun S=>by simp only[go_sem,Nat.reduceBEq,Nat.reduceAdd, *];first|exact if_pos (iP _)| (rw[if_pos (by first| (simp;done)|rfl|exact⟨rfl,rfl⟩|exact⟨iP _,rfl⟩)];exact Is.rfl)) ?_
     refine OW.nil (SeqQ.n (CW.ret (jr.r ?_)))
     refine⟨.inr rfl,rfl,[.bool false],?_,rfl⟩
     rw[hres]
     simp only[aew,List.mapM_nil,resV,go_sem,Nat.reduceBEq, *];rfl
    |false=>
     have h4:decide (i>=n)=true:=by rw[h1,h2,h3] at he;simpa using he
     refine OW.o1 (by rfl) (fun S=>by simp only[go_sem,Nat.reduceBEq,Nat.reduceAdd, *];with_reducible exact Is.rfl) ?_
     refine OW.o1 (by rfl) (fun S=>by simp only[go_sem,Nat.reduceBEq,Nat.reduceAdd, *];with_reducible exact Is.rfl) ?_
     refine OW.o1 (by rfl) (fun S=>by simp only[go_sem,Nat.reduceBEq,Nat.reduceAdd, *];with_reducible exact Is.rfl) ?_
     refine OW.o1 (by simp only[go_sem,Nat.reduceBEq,Nat.reduceAdd, *];with_reducible exact Is.rfl) (fun S=>by simp only[go_sem,Nat.reduceBEq,Nat.reduceAdd, *];with_reducible exact Is.rfl) ?_
     refine OW.o1 (by simp only[go_sem,Nat.reduceBEq,Nat.reduceAdd, *];with_reducible exact Is.rfl) (fun S=>by simp only[go_sem,Nat.reduceBEq,Nat.reduceAdd, *];with_reducible exact Is.rfl) ?_
     refine OW.o1 (by rfl) (fun S=>by rw[iH _ _ _ (by simp only[go_sem,Nat.reduceBEq, *])];simp only[go_sem,Nat.reduceBEq,Nat.reduceAdd, *];with_reducible exact Is.rfl) ?_
     refine OW.o1 (by rfl) (fun S=>by simp only[go_sem,Nat.reduceBEq,Nat.reduceAdd, *];with_reducible exact Is.rfl) ?_
     refine OW.o1 (by simp only[go_sem,Nat.reduceBEq,Nat.reduceAdd, *];with_reducible exact Is.rfl) (fun S=>by simp only[go_sem,Nat.reduceBEq,Nat.reduceAdd, *];with_reducible exact Is.rfl) ?_
     refine OW.o1 (by simp only[go_sem,Nat.reduceBEq,Nat.reduceAdd, *];with_reducible exact Is.rfl) (fun S=>by simp only[go_sem,Nat.reduceBEq,Nat.reduceAdd, *];with_reducible exact Is.rfl) ?_
     refine OW.o1 (by rfl) (fun S=>by rw[iH _ _ _ (by simp only[go_sem,Nat.reduceBEq, *])];simp only[go_sem,Nat.reduceBEq,Nat.reduceAdd, *];with_reducible exact Is.rfl) ?_
     refine OW.o1 (by rfl) (fun S=>by simp only[go_sem,Nat.reduceBEq,Nat.reduceAdd, *];with_reducible exact Is.rfl) ?_
     refine OW.o1 (by simp only[go_sem,Nat.reduceBEq,Nat.reduceAdd, *];with_reducible exact Is.rfl) (fun S=>by simp only[go_sem,Nat.reduceBEq,Nat.reduceAdd, *];with_reducible exact Is.rfl) ?_
     refine OW.o1 (by simp only[go_sem,Nat.reduceBEq,Nat.reduceAdd, *];with_reducible exact Is.rfl) (fun S=>by simp only[go_sem,Nat.reduceBEq,Nat.reduceAdd, *];with_reducible exact Is.rfl) ?_
     refine OW.o1 (by simp only[go_sem,Nat.reduceBEq,Nat.reduceAdd, *];with_reducible exact Is.rfl) (fun S=>by simp only[go_sem,Nat.reduceBEq,Nat.reduceAdd, *];with_reducible exact Is.rfl) ?_
     refine OW.o1 (by rfl) (fun S=>by rw[iH _ _ _ (by simp only[go_sem,Nat.reduceBEq, *])];simp only[go_sem,Nat.reduceBEq,Nat.reduceAdd, *];with_reducible exact Is.rfl) ?_
     refine OW.nil (SeqQ.n (CW.condT (by simp only[go_sem,Nat.reduceBEq,Nat.reduceAdd, *];exact Is.rfl) (CW.seq (CW.region ?_))))
     refine OW.o0 (by rfl) (fun S=>by simp only[go_sem,Nat.reduceBEq,Nat.reduceAdd, *];first|exact if_pos (iP _)| (rw[if_pos (by first| (simp;done)|rfl|exact⟨rfl,rfl⟩|exact⟨iP _,rfl⟩)];exact Is.rfl)) ?_
     refine OW.nil (SeqQ.n (CW.ret (jr.r ?_)))
     refine⟨.inr rfl,rfl,[.bool false],?_,rfl⟩
     rw[hres]
     simp only[aew,List.mapM_nil,resV,go_sem,Nat.reduceBEq, *];rfl
 |false=>
  unfold uz at h
  rw[he,cond_false,aat] at h
  obtain⟨r,hr,rfl⟩:=h
  have h1:decide (n<1)=false:=by cases h:decide (n<1)<;>rw[h] at he<;>simp_all
  have h2:decide (n>1099511627776)=false:=by cases h:decide (n>1099511627776)<;>rw[h] at he<;>simp_all
  have h3:decide (i<0)=false:=by cases h:decide (i<0)<;>rw[h] at he<;>simp_all
  have h4:decide (i>=n)=false:=by cases h:decide (i>=n)<;>rw[h] at he<;>simp_all
  have aeR:frzB E 106 (some 30)=false:=rfl
  have aeS:zeroT Tryz.prog 104=some .nilp:=by kernel_rfl
  have aeT:zeroT Tryz.prog 109=some .nilf:=by kernel_rfl
  have aeU:szT Tryz.prog 104=some 1:=by kernel_rfl
  have aeV:szT Tryz.prog 109=some 1:=by kernel_rfl
  have on1:oneCells V.nilp.cells=true:=rfl
  have on2:oneCells V.nilf.cells=true:=rfl
  have sP:∀x:V,spliceL V.nilp.cells 0 [x]=[x]:=fun _=>rfl
  have sF:∀x:V,spliceL V.nilf.cells 0 [x]=[x]:=fun _=>rfl
  have lP:V.nilp.cells.length=1:=rfl
  have lF:V.nilf.cells.length=1:=rfl
  have eqd:=Qf r.1 root
  have sN:∀x y:V,spliceL [y] 0 [x]=[x]:=fun _ _=>rfl
  have b2:Bj E 106 [(0,lv ah.v l)]=some [lv ah.v l,.bool false]:=by kernel_rfl
  have f1:∀a b c:V,ldT Tryz.prog 109 [.fn (.func 67) [] [a,b,c]] 0=some (.fn (.func 67) [] [a,b,c]):=fun _ _ _=>rfl
  have p1:∀s,ldT Tryz.prog 104 [.ref (1,30) s 0] 0=some (.ref (1,30) s 0):=fun _=>rfl
  refine aax (fn:=Tryz.f32) (c:=Tryz.f32.body.getD .skip) (R:=fun v _=>v= .bool (lH r.1 root&& !r.2.2&& r.2.1.isEmpty)) Tryz.func32 rfl (by kernel_rfl) ?_
  generalize hfr:({d:=1,om:=E.om 32,tm:=fun j=>([leaf.v,.int .i64 i,.int .i64 n,lv ah.v l,root.v]:List V).getD j undefV}:Fr)=fr
  have a0:fr.tm 0=leaf.v:=by rw[<-hfr];rfl
  have a1:fr.tm 1= .int .i64 i:=by rw[<-hfr];rfl
  have a2:fr.tm 2= .int .i64 n:=by rw[<-hfr];rfl
  have a3:fr.tm 3=lv ah.v l:=by rw[<-hfr];rfl
  have a4:fr.tm 4=root.v:=by rw[<-hfr];rfl
  have hd:fr.d=1:=by rw[<-hfr]
  have hom:fr.om=false:=by rw[<-hfr];rfl
  clear hfr
  refine DW.seq (CW.region ?_)
  refine OW.o1 (by rfl) (fun S=>by simp only[go_sem,Nat.reduceBEq,Nat.reduceAdd, *];with_reducible exact Is.rfl) ?_
  refine OW.o1 (by rfl) (fun S=>by simp only[go_sem,Nat.reduceBEq,Nat.reduceAdd, *];with_reducible exact Is.rfl) ?_
  refine OW.o1 (by rfl) (fun S=>by simp only[go_sem,Nat.reduceBEq,Nat.reduceAdd, *];with_reducible exact Is.rfl) ?_
  refine OW.nil (jr.n ?_)
  refine DW.seq (CW.seq (CW.region ?_))
  refine OW.o1 (by rfl) (fun S=>by simp only[go_sem,Nat.reduceBEq,Nat.reduceAdd, *];with_reducible exact Is.rfl) ?_
  refine OW.o1 (by rfl) (fun S=>by simp only[go_sem,Nat.reduceBEq,Nat.reduceAdd, *];with_reducible exact Is.rfl) ?_
  refine OW.o1 (by rfl) (fun S=>by simp only[go_sem,Nat.reduceBEq,Nat.reduceAdd, *];with_reducible exact Is.rfl) ?_
  refine OW.o1 (by simp only[go_sem,Nat.reduceBEq,Nat.reduceAdd, *];with_reducible exact Is.rfl) (fun S=>by simp only[go_sem,Nat.reduceBEq,Nat.reduceAdd, *];with_reducible exact Is.rfl) ?_
  refine OW.o1 (by simp only[go_sem,Nat.reduceBEq,Nat.reduceAdd, *];with_reducible exact Is.rfl) (fun S=>by simp only[go_sem,Nat.reduceBEq,Nat.reduceAdd, *];with_reducible exact Is.rfl) ?_
  refine OW.o1 (by rfl) (fun S=>by rw[iH _ _ _ (by simp only[go_sem,Nat.reduceBEq, *])];simp only[go_sem,Nat.reduceBEq,Nat.reduceAdd, *];with_reducible exact Is.rfl) ?_
  refine OW.o1 (by rfl) (fun S=>by simp only[go_sem,Nat.reduceBEq,Nat.reduceAdd, *];with_reducible exact Is.rfl) ?_
  refine OW.o1 (by simp only[go_sem,Nat.reduceBEq,Nat.reduceAdd, *];with_reducible exact Is.rfl) (fun S=>by simp only[go_sem,Nat.reduceBEq,Nat.reduceAdd, *];with_reducible exact Is.rfl) ?_
  refine OW.o1 (by simp only[go_sem,Nat.reduceBEq,Nat.reduceAdd, *];with_reducible exact Is.rfl) (fun S=>by simp only[go_sem,Nat.reduceBEq,Nat.reduceAdd, *];with_reducible exact Is.rfl) ?_
  refine OW.o1 (by rfl) (fun S=>by rw[iH _ _ _ (by simp only[go_sem,Nat.reduceBEq, *])];simp only[go_sem,Nat.reduceBEq,Nat.reduceAdd, *];with_reducible exact Is.rfl) ?_
  refine OW.o1 (by rfl) (fun S=>by simp only[go_sem,Nat.reduceBEq,Nat.reduceAdd, *];with_reducible exact Is.rfl) ?_
  refine OW.o1 (by simp only[go_sem,Nat.reduceBEq,Nat.reduceAdd, *];with_reducible exact Is.rfl) (fun S=>by simp only[go_sem,Nat.reduceBEq,Nat.reduceAdd, *];with_reducible exact Is.rfl) ?_
  refine OW.o1 (by simp only[go_sem,Nat.reduceBEq,Nat.reduceAdd, *];with_reducible exact Is.rfl) (fun S=>by simp only[go_sem,Nat.reduceBEq,Nat.reduceAdd, *];with_reducible exact Is.rfl) ?_
  refine OW.o1 (by simp only[go_sem,Nat.reduceBEq,Nat.reduceAdd, *];with_reducible exact Is.rfl) (fun S=>by simp only[go_sem,Nat.reduceBEq,Nat.reduceAdd, *];with_reducible exact Is.rfl) ?_
  refine OW.o1 (by rfl) (fun S=>by rw[iH _ _ _ (by simp only[go_sem,Nat.reduceBEq, *])];simp only[go_sem,Nat.reduceBEq,Nat.reduceAdd, *];with_reducible exact Is.rfl) ?_
  refine OW.nil (SeqQ.n (CW.condF (by simp only[go_sem,Nat.reduceBEq,Nat.reduceAdd, *];exact Is.rfl) (CW.skip (jr.n ?_))))
  refine DW.seq (CW.region ?_)
  refine OW.o1 (by rfl) (fun S=>by simp only[go_sem,Nat.reduceBEq,Nat.reduceAdd, *];with_reducible exact Is.rfl) ?_
  refine OW.o1 (by rfl) (fun S=>by simp only[go_sem,Nat.reduceBEq,Nat.reduceAdd, *];with_reducible exact Is.rfl) ?_
  refine OW.o1 (by rfl) (fun S=>by simp only[go_sem,Nat.reduceBEq,Nat.reduceAdd, *];with_reducible exact Is.rfl) ?_
  refine OW.o1 (by rfl) (fun S=>by simp only[go_sem,Nat.reduceBEq,Nat.reduceAdd, *];with_reducible exact Is.rfl) ?_
  refine OW.o0 (by rfl) (fun S=>by simp only[go_sem,Nat.reduceBEq,Nat.reduceAdd, *];first|exact if_pos (iP _)| (rw[if_pos (by first| (simp;done)|rfl|exact⟨rfl,rfl⟩|exact⟨iP _,rfl⟩)];exact Is.rfl)) ?_
  refine OW.nil (jr.n ?_)
  refine DW.defer (k:=1) (m:=0) rfl ⟨rfl,rfl⟩ (aaK rfl rfl (by simp only[go_sem,Nat.reduceBEq,Nat.reduceAdd, *];exact Is.rfl)) (by rfl) ?_
  refine CW.seq (CW.region ?_)
  refine OW.o1 (by rfl) (fun S=>by simp only[go_sem,Nat.reduceBEq,Nat.reduceAdd, *];with_reducible exact Is.rfl) ?_
  refine OW.nil (SeqQ.n ?_)
  refine CW.seq (CW.region ?_)
  refine OW.o1 (by rfl) (fun S=>by rw[Qe (a:=[]) (b:=[.tmp 5,.tmp 11,.tmp 12])];simp only[aez,List.map_nil,go_sem,Nat.reduceBEq,Nat.reduceAdd, *];exact Is.rfl) ?_
  refine OW.o0 (by rfl) (fun S=>by simp only[go_sem,Nat.reduceBEq,Nat.reduceAdd, *];first|exact if_pos (iP _)| (rw[if_pos (by first| (simp;done)|rfl|exact⟨rfl,rfl⟩|exact⟨iP _,rfl⟩)];exact Is.rfl)) ?_
  refine OW.nil (SeqQ.n ?_)
  refine CW.seq (CW.Cm (by kernel_rfl) ?_)
  refine xF _ rfl rfl (qD (off:=0) (loc:=(1,12)) (by rfl)) (fun S=>by simp only[go_sem,Nat.reduceBEq,Nat.reduceAdd, *];with_reducible exact Is.rfl) ?_
  refine xF _ rfl rfl mZ (fun S=>by simp only[go_sem,Nat.reduceBEq,Nat.reduceAdd, *];with_reducible exact Is.rfl) ?_
  refine xF _ rfl rfl mZ (fun S=>by simp only[go_sem,Nat.reduceBEq,Nat.reduceAdd, *];with_reducible exact Is.rfl) ?_
  refine xI (g:=67) (a:=[]) ⟨true,true,[.slot 33,.slot 34,.slot 35],[.slot 36]⟩ [.obj (1,9)] rfl rfl rfl rfl (by rfl) rfl (by rfl) rfl ?_
  simp only[p8,nS,Bc,hd]
  change Imp E 67 [.int .i64 i,.int .i64 n,.ref (1,5) _ 0,.ref (1,11) _ 0,.ref (1,12) _ 0] 2 _ _
  refine imp_mono (aaH (fq:=20) uI hsplit _ i n l false r hr hl 2 _ .sh (by decide) ⟨by kernel_rfl,by kernel_rfl,by kernel_rfl,by kernel_rfl⟩) ?_
  rintro v σ2 ⟨rfl,⟨c',hcs'⟩,hfr⟩
  have g9:=(iU (s:=Sig.init.next+1) (hfr 1 9 (by decide) (by decide))).trans (show _=some root.c by kernel_rfl)
  have g10:=(iU (s:=Sig.init.next+2) (hfr 1 10 (by decide) (by decide))).trans (show _=some [.bool false] by kernel_rfl)
  refine⟨fun _=>rfl,fun k hk=>?_,?_⟩
  ·rw[aeH.1 hk];exact(hfr 1 9 (by decide) (by decide)).symm
  refine xF _ rfl rfl (qD (off:=0) (loc:=(1,9)) (by rfl)) (fun S=>by simp only[go_sem,Nat.reduceBEq,Nat.reduceAdd, *];with_reducible exact Is.rfl) ?_
  refine xF (v:=.bool (lH r.1 root)) ⟨false,false,[.slot 36,.slot 37],[.slot 38]⟩ rfl rfl rfl (fun S=>by rw[LX];exact congrArg (Option.map fun v=>(v,_,_)) (Qf r.1 root)) ?_
  refine xF _ rfl rfl (Cr (off:=0) (loc:=(1,10)) (by rfl)) (fun S=>by simp only[go_sem,Nat.reduceBEq,Nat.reduceAdd, *];first|exact if_pos (iP _)| (rw[if_pos (by first| (simp;done)|rfl|exact⟨rfl,rfl⟩|exact⟨iP _,rfl⟩)];exact Is.rfl)) ?_
  refine XW.nil (by kernel_rfl) (SeqQ.n (CW.ret ?_))
  refine⟨.inr rfl,66,[.ref (1,30) 20 0,.ref (1,10) (Sig.init.next+2) 0],rfl,by kernel_rfl,imp_mono (aaJ (c:=c') (l:=r.2.1) (ok:=lH r.1 root) (sh:=r.2.2) ?_ ?_) fun _ σ3 h3=>⟨[.bool (lH r.1 root&& !r.2.2&& r.2.1.isEmpty)],?_,rfl⟩⟩
  ·simp only[go_sem,Nat.reduceBEq, *]
  ·exact(p9 _ _ _ _ rfl).trans hcs'.Ct
  ·rw[hres]
   simp only[aew,List.mapM_nil,resV,go_sem,Nat.reduceBEq,h3, *];rfl
end Sh
end
section
namespace Aq
open Go Go.RowKit
theorem aaN {E:Env} {call:FuncId->List V->Nat->Sig->Option (V×Sig)} (hS:pV E call) {f:FuncId} {args:List V} {v v0:V} {σ1:Sig} (hc:call f args 1 Sig.init=some (v0,σ1)) (h:closeV 20 σ1 v0=some v):PureOK E f args v:=by
 obtain⟨_,hb,hs⟩:=hS _ _ _ _ _ _ hc
 refine⟨hb,fun I IM w cargs hl hr=>?_⟩
 have hr':RelA (aB.lend I IM) Sig.init.top w args cargs:=hr
 refine(hs none w.heap.size (aB.lend I IM) w cargs (Fh hl) (iP _) (fun s hs=>hs.elim) hr').mono ?_
 intro e w' hp
 cases e with
 |returned c=>
  obtain⟨K1,r1,s1,_,st⟩:=hp
  refine⟨st.below,?_⟩
  have:=Fg (T':=fun _=>0) s1 20 v0 v c r1 h
  refine this.wL (fun b o hi=>⟨⟨?_,hi.2⟩,rfl⟩) (fun b hi=>⟨⟨?_,hi.2⟩,rfl⟩)
  ·rcases hi.1 with h1|h1
   ·exact st.nI b o h1
   ·exact .inr h1
  ·rcases hi.1 with h1|h1
   ·exact st.kR b h1
   ·exact .inr h1
 |panicked ch=>exact hp.elim
 |outgrown=>exact hp.elim
end Aq
end
