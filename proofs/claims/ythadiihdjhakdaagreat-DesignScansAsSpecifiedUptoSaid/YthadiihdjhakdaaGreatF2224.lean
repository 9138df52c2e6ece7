import Derived.Ground.SlsfProg
import Derived.Shelf.Lay
import Derived.Shelf.SlSortCmp.NoneTotal
import Derived.Shelf.SlSortCmp.WholeK
import Derived.Test.YthadiihdjhakdaaGreatF2223
set_option linter.all false
section
open Go Go.Proofs aR
namespace Sh
set_option maxRecDepth 100000
def xE (o:Oper):Option Tmp×Op×Option (Nat×Bool):=(o.dst,o.op,o.guard)
section
variable {S:kH}{ops:List Oper}{base i:Nat}{l:List Nat}{fr:Fr}{σ σ1:ak}
theorem opAt {sh:List (Option Tmp×Op×Option (Nat×Bool))}(hs:ops.map xE=sh){d:Option Tmp}{p:Op}{g:Option (Nat×Bool)}(hi:sh[i]? =some (d,p,g)):∃ty pos gG,ops[i]? =some ⟨d,p,ty,pos,gG,g⟩:=by
 have h1:(ops[i]?).map xE=some (d,p,g):=by rw[<-List.getElem?_map,hs];exact hi
 obtain⟨o,ho,h2⟩:=bf.1 h1;obtain⟨d',p',ty,pos,gG,g'⟩:=o;simp only[xE,mF] at h2;obtain⟨rfl,rfl,rfl⟩:=h2;exact⟨ty,pos,gG,ho⟩
theorem TK {sh:List (Option Tmp×Op×Option (Nat×Bool))}(hs:ops.map xE=sh){d:Option Tmp}{p:Op}(hi:sh[i]? =some (d,p,none)){v:V}(hop:∀ty pos gG,opC E S fr σ (base+i) ⟨d,p,ty,pos,gG,none⟩=some (v,fr,σ1)){r:Option (Fr×ak)}(h:opsL E S ops base l (fr.put d v) σ1=r):opsL E S ops base (i::l) fr σ=r:=by
 obtain⟨ty,pos,gG,ho⟩:=opAt hs hi;show (lQ E S ops base i fr σ).bind _=r;have:lQ E S ops base i fr σ=some (fr.put d v,σ1):=by unfold lQ;rw[ho];dsimp only;rw[show iU ops fr ⟨d,p,ty,pos,gG,none⟩=some true from rfl];rw[Option.bind_some,if_pos rfl,hop];rfl
 rw[this];exact h
theorem vQ {sh:List (Option Tmp×Op×Option (Nat×Bool))}(hs:ops.map xE=sh){d:Option Tmp}{p:Op}(hi:sh[i]? =some (d,p,none))(v:V)(hop:∀ty pos gG,opC E S fr σ (base+i) ⟨d,p,ty,pos,gG,none⟩=some (v,fr,σ)){r:Option (Fr×ak)}(h:opsL E S ops base l (fr.put d v) σ=r):opsL E S ops base (i::l) fr σ=r:=TK hs hi hop h
theorem aom {id:Nat}{ops:Array Oper}{N k:Nat}{fr':Fr}{σ':ak}{Q:Ex->Fr->ak->Prop}(hk:ops.toList.length=k)(h:opsL E (dX E N) ops.toList σ.next (List.range' 0 k) fr {σ with next:=σ.next+k}=some (fr',σ'))(hq:Q .normal fr' σ'):bH E (.region id ops false) fr σ Q:=by refine bH.region ⟨N,fr',σ',?_,hq⟩;have:=aff (E:=E) (S:=dX E N) ops.toList σ.next ops.toList 0 fr (σ.bump ops.toList.length) (fun j=>by rw[nH]);rw[Nat.add_zero] at this;rw[this,hk];exact h
end
def MF:Code->Array Oper
 |.region _ o _=>o|_=> #[]
noncomputable def TL:Array Oper:=MF (kV [1,1,1,0])
noncomputable def adH:Array Oper:=MF (kV [1,1,1,1,0,0])
noncomputable def adI:Array Oper:=MF (kV [1,1,1,1,0,1,0,0,0])
noncomputable def MG:Array Oper:=MF (kV [1,1,1,1,0,1,0,0,1,1,0,0])
noncomputable def Yg:Array Oper:=MF (kV [1,1,1,1,0,1,0,0,1,1,0,1])
theorem aDb:kV [1,1,1,1,0]= .seq (.region 10 adH false) (.block 2 (.loop (.seq (.region 11 adI false) (.seq (.cond (.tmp 54) .skip (.exit 2)) (.block 3 (.seq (.region 12 MG false) (.region 13 Yg false))))))):=aA
theorem aDc:Tryz.f99.body=some (.seq (kV [0]) (.seq (kV [1,0]) (.seq (kV [1,1,0]) (.seq (.region 9 TL false) (.seq (kV [1,1,1,1,0]) (.seq (kV [1,1,1,1,1,0]) WY)))))):=aA
theorem TM:TL.toList.map xE=[(some 48,.move (.tmp 7),none),(some 49,.call ⟨.builtin .len, #[.tmp 48], #[190]⟩,none),(some 50,.makeSlice 44 (.const (.int .i64 0)) (.tmp 49),none),(some 12,.assign (.tmp 50),none)]:=aA
theorem adJ:adH.toList.map xE=[(some 51,.move (.tmp 7),none),(some 52,.range 190 (.tmp 51),none)]:=aA
theorem adK:adI.toList.map xE=[(some 53,.next (.tmp 52) false,none),(some 54,.extract (.tmp 53) 0,none)]:=aA
theorem MH:MG.toList.map xE=[(some 55,.entry (.tmp 52),none),(some 56,.extract (.tmp 55) 1,none),(some 14,.alloc 96,none),(none,.store 96 (.tmp 14) (.tmp 56),none)]:=aA
theorem MI:Yg.toList.map xE=[(some 57,.move (.tmp 12),none),(some 58,.load 96 (.tmp 14),none),(some 59,.buildSlice 44 1 #[(0,.tmp 58)],none),(some 60,.call ⟨.builtin .append, #[.tmp 57,.tmp 59], #[44,44]⟩,none),(some 12,.assign (.tmp 60),none)]:=aA
theorem Yh:kC Tryz.prog 96=some (aG.v ⟨0,0,0⟩):=aA
theorem aon:Tryz.prog.underlying 190=some (.map 3 96):=aA
theorem aDd (h:aG):zF E 44 1 [(0,aG.v h)]=some (.ay .full [aG.v h]):=by unfold zF;rw[show E.P=Tryz.prog from rfl,abq,Option.bind_some,Pq,Option.bind_some,WA,Option.bind_some,Yh,Option.bind_some];rfl
theorem aDe (h:aG):kN Tryz.prog 96 (aG.c h) 0=some (aG.v h):=by unfold kN;rw[WA,Pq];rfl
theorem TN {σ:ak}{loc:aR.Loc}{s:Nat}{cs:List V}:(σ.setObj loc s (.cells cs)).bQ loc s=some cs:=by have h:(σ.setObj loc s (.cells cs)).obj loc=some (s,.cells cs):=upd_same _ _ _;unfold ak.bQ;rw[h];exact if_pos rfl
theorem TP {σ:ak}{loc loc':aR.Loc}{s s':Nat}{x:iN}(h:loc≠loc'):(σ.setObj loc' s' x).bQ loc s=σ.bQ loc s:=by have h:(σ.setObj loc' s' x).obj loc=σ.obj loc:=upd_ne _ _ h;unfold ak.bQ;rw[h]
theorem aoo {σ:ak}{loc loc':aR.Loc}{s:Nat}(h:loc≠loc'):(σ.eu loc').bQ loc s=σ.bQ loc s:=by have h:(σ.eu loc').obj loc=σ.obj loc:=upd_ne _ _ h;unfold ak.bQ;rw[h]
theorem aDf {σ:ak}{loc loc':aR.Loc}{s s':Nat}{x:iN}(h:loc≠loc'):(σ.setObj loc' s' x).gB loc s=σ.gB loc s:=by have h:(σ.setObj loc' s' x).obj loc=σ.obj loc:=upd_ne _ _ h;unfold ak.gB;rw[h]
theorem qj (fr:Fr)(i:Nat)(v:V):(fr.set i v).tm i=v:=upd_same _ _ _
theorem fZ (fr:Fr){i j:Nat}(v:V)(h:j≠i):(fr.set i v).tm j=fr.tm j:=upd_ne _ _ h
theorem aDg {S:kH}{fr:Fr}{σ:ak}{s15 M:Nat}{ks vs:List V}(bO:fr.aj=true)(hd:fr.d=1)(h7:fr.tm 7= .cu (1,15) s15)(hm:σ.gB (1,15) s15=some (ks,vs))(hk:ks.length=M)(hM:M<2^28):
 opsL E S TL.toList σ.next (List.range' 0 4) fr {σ with next:=σ.next+4}=some ((((fr.set 48 (.cu (1,15) s15)).set 49 (.int .i64 (M:Nat))).set 50 (.aM (1,50) (σ.next+2) 0 0 M 3 true)).set 12 (.aM (1,50) (σ.next+2) 0 0 M 3 true),({σ with next:=σ.next+4}:ak).setObj (1,50) (σ.next+2) (.cells (List.replicate M (aG.c ⟨0,0,0⟩)).flatten)):=by
 show opsL E S TL.toList σ.next [0,1,2,3] fr _=_;refine vQ TM rfl (.cu (1,15) s15) (fun ty pos gG=>(Oh (.tmp 7) (Pw _)).trans (by rw[show fr.ev E (.tmp 7)=fr.tm 7 from rfl,h7])) ?_;refine vQ TM rfl (.int .i64 (M:Nat)) (fun ty pos gG=>(afW (.tmp 48) 190).trans ?_) ?_
 ·rw[show (fr.put (some 48) (V.cu (1,15) s15)).ev E (.tmp 48)=V.cu (1,15) s15 from qj _ _ _]
  have:rV E ({σ with next:=σ.next+4}:ak) 190 (.cu (1,15) s15)=some M:=by unfold rV;rw[show E.P=Tryz.prog from rfl,aon];show (ak.gB ({σ with next:=σ.next+4}:ak) (1,15) s15).map _=_;rw[show ak.gB ({σ with next:=σ.next+4}:ak) (1,15) s15=some (ks,vs) from hm];show some ks.length=_;rw[hk]
  rw[this];rfl
 refine TK TM rfl (v:=.aM (1,50) (σ.next+2) 0 0 M 3 true) (fun ty pos gG=>?_) ?_ (σ1:=({σ with next:=σ.next+4}:ak).setObj (1,50) (σ.next+2) (.cells (List.replicate M (aG.c ⟨0,0,0⟩)).flatten))
 ·show (wC E.P fr.aj ({σ with next:=σ.next+4}:ak) (σ.next+2) (some (fr.d,50)) 44 (.int .i64 0) (((fr.set 48 (.cu (1,15) s15)).set 49 (.int .i64 (M:Nat))).tm 49)).map _=_
  rw[qj];have:wC E.P fr.aj ({σ with next:=σ.next+4}:ak) (σ.next+2) (some (fr.d,50)) 44 (.int .i64 0) (.int .i64 (M:Nat))=some (.aM (1,50) (σ.next+2) 0 0 M 3 true,({σ with next:=σ.next+4}:ak).setObj (1,50) (σ.next+2) (.cells (List.replicate M (aG.c ⟨0,0,0⟩)).flatten)):=by
   unfold wC;rw[show E.P=Tryz.prog from rfl,abq,Option.bind_some,Pq,Option.bind_some,aiM,Option.bind_some,Yh,Option.bind_some,bO,hd];show (if _ then (if (0:Int)=0/\true=false then _ else _) else none)=_;rw[if_pos,if_neg aD]
   ·rw[Option.bind_some,WA]
    show some (V.aM (1,50) (σ.next+2) 0 (Int.toNat 0) (Int.toNat (M:Int)) 3 true,_)=_;rw[Int.toNat_natCast];rfl
   ·refine⟨ah,ah,?_,ah,rfl⟩
    rw[Int.toNat_natCast];unfold dB;rw[aT,decide_eq_true_iff,decide_eq_true_iff];omega
  rw[this];rfl
 refine vQ TM rfl (.aM (1,50) (σ.next+2) 0 0 M 3 true) (fun ty pos gG=>(Zx (.tmp 50)).trans ?_) rfl;exact congrArg (fun v=>some (v,_,_)) (qj _ _ _)
structure AX (k:Int)(s3 dG M:Nat)(hs:List aG)(fr:Fr)(σ:ak):Prop where
 d:fr.d=1
 aj:fr.aj=true
 t2:fr.tm 2= .int .i64 k
 t3:fr.tm 3= .ref (1,3) s3 0
 t12:fr.tm 12= .aM (1,50) dG 0 hs.length M 3 true
 c3:σ.bQ (1,3) s3=some [.fn (.func 148) [] [],.fn (.func 150) [] []]
 cs:∃cs,σ.bQ (1,50) dG=some cs/\cs.length=3*M/\cs.take (3*hs.length)=hs.flatMap aG.c
theorem sK (hs:List aG):(hs.flatMap aG.c).length=3*hs.length:=by
 induction hs with
 |nil=>rfl|cons h hs ih=>rw[mo,RS,ih,List.length_cons];show 3+_=_;omega
theorem aDh {cs:List V}{n M:Nat}{vs:List V}(hv:vs.length=3)(hc:cs.length=3*M)(hn:n<M):(iT cs (n*3) vs).length=3*M:=by unfold iT;simp only[RS,j3,vZ,hv,hc];omega
theorem aDi {cs:List V}{n M:Nat}{vs:List V}(hv:vs.length=3)(hc:cs.length=3*M)(hn:n<M):(iT cs (n*3) vs).take (3*(n+1))=cs.take (3*n)++vs:=by
 unfold iT;have e:3*(n+1)=(cs.take (n*3)++vs).length:=by simp only[RS,j3,hv,hc];omega
 rw[e,List.take_left];rw[xK n 3]
theorem aDj {σ:ak}{st dG n M:Nat}{cs:List V}{loc:Option aR.Loc}(hl:loc.isSome=true)(h:aG)(hc:σ.bQ (1,50) dG=some cs)(hcl:cs.length=3*M)(hn:n<M)(hM:M<2^28):
 mR Tryz.prog true false σ st loc 44 (.aM (1,50) dG 0 n M 3 true) (.ay .full [aG.v h])=some (.aM (1,50) dG 0 (n+1) M 3 true,σ.setObj (1,50) dG (.cells (iT cs (n*3) (aG.c h)))):=by
 obtain⟨loc,rfl⟩:=Option.isSome_iff_exists.1 hl;unfold mR;rw[abq,Option.bind_some,Pq,Option.bind_some,aiM,Option.bind_some,WA,Option.bind_some,Yh,Option.bind_some];rw[if_pos ⟨rfl,rfl,aX,rfl⟩];have e:tF σ true 3 (aG.v ⟨0,0,0⟩) (.ay .full [aG.v h])=some [aG.v h]:=rfl;rw[e,Option.bind_some,if_pos uI];show (if dB (n+1) 24=true/\true=true/\0=0/\3=3 then (σ.bQ (1,50) dG).bind _ else none)=_;rw[if_pos,hc,Option.bind_some]
 ·show (if n+1<=M then (if (n+1)*3<=cs.length then _ else none) else _)=_
  rw[if_pos ah,if_pos ah];rfl
 ·refine⟨?_,rfl,rfl,rfl⟩
  unfold dB;rw[aT,decide_eq_true_iff,decide_eq_true_iff];omega
theorem aDk {N:Nat}{k:Int}{s3 dG M:Nat}{hs:List aG}{fr:Fr}{σ:ak}(kk:V)(h:aG)(hj:AX k s3 dG M hs fr σ)(hn:hs.length<M)(hM:M<2^28):
 ∃fI σ2,opsL E (dX E N) MG.toList (σ.next+2) (List.range' 1 3) (((fr.put (some 53) (.bB [.bool true,kk,aG.v h])).put (some 54) (.bool true)).put (some 55) (.bB [kk,aG.v h])) {σ with next:=σ.next+2+MG.size}=some (fI,σ2)/\fI.tm 52=fr.tm 52/\
  bH E (.region 13 Yg false) fI σ2 fun e qX σ3=>e= .normal/\qX.tm 52=fr.tm 52/\AX k s3 dG M (hs++[h]) qX σ3:=by
 generalize hfx:(((fr.put (some 53) (.bB [.bool true,kk,aG.v h])).put (some 54) (.bool true)).put (some 55) (.bB [kk,aG.v h]))=xG;have t:∀i,i≠53->i≠54->i≠55->xG.tm i=fr.tm i:=fun i h1 h2 h3=>by rw[<-hfx];exact((fZ _ _ h3).trans (fZ _ _ h2)).trans (fZ _ _ h1)
 have t55:xG.tm 55= .bB [kk,aG.v h]:=by rw[<-hfx];exact qj _ _ _
 have hd:xG.d=1:=by rw[<-hfx];exact hj.d
 have bO:xG.aj=true:=by rw[<-hfx];exact hj.aj
 have hsz:MG.size=4:=by have:=congrArg List.length MH;rw[iG] at this;exact this
 rw[hsz];generalize aop:({σ with next:=σ.next+2+4}:ak)=tQ;have hcA:∀loc s,tQ.bQ loc s=σ.bQ loc s:=fun loc s=>by rw[<-aop];rfl
 have NQ:tQ.next=σ.next+6:=by rw[<-aop]
 refine⟨(xG.set 56 (aG.v h)).set 14 (.ref (1,14) (σ.next+4) 0),(tQ.setObj (1,14) (σ.next+4) (.cells (aG.c ⟨0,0,0⟩))).setObj (1,14) (σ.next+4) (.cells (aG.c h)),?_,?_,?_⟩
 ·show opsL E (dX E N) MG.toList (σ.next+2) [1,2,3] xG tQ=_
  refine vQ MH rfl (aG.v h) (fun ty pos gG=>(ZA (.tmp 55) 1).trans ?_) ?_
  ·rw[show xG.ev E (.tmp 55)=xG.tm 55 from rfl,t55];rfl
  refine TK MH rfl (v:=.ref (1,14) (σ.next+4) 0) (σ1:=tQ.setObj (1,14) (σ.next+4) (.cells (aG.c ⟨0,0,0⟩))) (fun ty pos gG=>(afV 96 14).trans ?_) ?_
  ·rw[show E.P=Tryz.prog from rfl,Yh,Option.bind_some,if_pos uI]
   show some (V.ref (xG.d,14) (σ.next+2+2) 0,_,tQ.setObj (xG.d,14) (σ.next+2+2) _)=_;rw[hd];rfl
  refine TK MH rfl (v:=aL) (σ1:=(tQ.setObj (1,14) (σ.next+4) (.cells (aG.c ⟨0,0,0⟩))).setObj (1,14) (σ.next+4) (.cells (aG.c h))) (fun ty pos gG=>(Zz 96 (.tmp 14) (.tmp 56)).trans ?_) rfl;generalize Bb:((xG.put (some 56) (aG.v h)).put (some 14) (.ref (1,14) (σ.next+4) 0))=rJ;have adL:rJ.ev E (.tmp 14)= .ref (1,14) (σ.next+4) 0:=by rw[<-Bb];exact qj _ _ _
  have aDl:rJ.ev E (.tmp 56)=aG.v h:=by rw[<-Bb];exact(fZ _ _ aX).trans (qj _ _ _)
  rw[adL,aDl];show ((tQ.setObj (1,14) (σ.next+4) (.cells (aG.c ⟨0,0,0⟩))).bQ (1,14) (σ.next+4)).bind _=_;rw[TN,Option.bind_some,if_pos ⟨by rw[show E.P=Tryz.prog from rfl,Pq];rfl,by show 0+3<=3;decide,uI⟩];rfl
 ·exact((fZ _ _ aX).trans (fZ _ _ aX)).trans (t 52 aX aX aX)
 ·generalize adM:(tQ.setObj (1,14) (σ.next+4) (.cells (aG.c ⟨0,0,0⟩))).setObj (1,14) (σ.next+4) (.cells (aG.c h))=lD
  have hcB:∀loc s,loc≠(1,14)->lD.bQ loc s=σ.bQ loc s:=fun loc s hne=>by rw[<-adM,TP hne,TP hne,hcA]
  have aDm:lD.bQ (1,14) (σ.next+4)=some (aG.c h):=by rw[<-adM];exact TN
  have aEZ:lD.next=σ.next+6:=by rw[<-adM];exact NQ
  generalize Bb:(xG.set 56 (aG.v h)).set 14 (V.ref (1,14) (σ.next+4) 0)=rJ;have ty:∀i,i≠53->i≠54->i≠55->i≠56->i≠14->rJ.tm i=fr.tm i:=fun i h1 h2 h3 h4 h5=>by rw[<-Bb,fZ _ _ h5,fZ _ _ h4];exact t i h1 h2 h3
  have adL:rJ.tm 14= .ref (1,14) (σ.next+4) 0:=by rw[<-Bb];exact qj _ _ _
  have yd:rJ.d=1:=by rw[<-Bb];exact hd
  have yo:rJ.aj=true:=by rw[<-Bb];exact bO
  obtain⟨cs,c1,c2,c3⟩:=hj.cs;have c1':({lD with next:=lD.next+5}:ak).bQ (1,50) dG=some cs:=by show lD.bQ (1,50) dG=_;rw[hcB _ _ aX];exact c1
  refine aom (N:=0) (k:=5) (fr':=((((rJ.set 57 (.aM (1,50) dG 0 hs.length M 3 true)).set 58 (aG.v h)).set 59 (.ay .full [aG.v h])).set 60 (.aM (1,50) dG 0 (hs.length+1) M 3 true)).set 12 (.aM (1,50) dG 0 (hs.length+1) M 3 true))
   (σ':=({lD with next:=lD.next+5}:ak).setObj (1,50) dG (.cells (iT cs (hs.length*3) (aG.c h)))) (by have:=congrArg List.length MI;rw[iG] at this;exact this) ?_ ?_
  ·show opsL E (dX E 0) Yg.toList lD.next [0,1,2,3,4] rJ _=_
   refine vQ MI rfl (.aM (1,50) dG 0 hs.length M 3 true) (fun _ _ _=>(Oh (.tmp 12) (Pw _)).trans ?_) ?_
   ·rw[show rJ.ev E (.tmp 12)=rJ.tm 12 from rfl,ty 12 aX aX aX aX aX,hj.t12]
   refine vQ MI rfl (aG.v h) (fun _ _ _=>(Zy 96 (.tmp 14)).trans ?_) ?_
   ·rw[show (rJ.put (some 57) (V.aM (1,50) dG 0 hs.length M 3 true)).ev E (.tmp 14)= .ref (1,14) (σ.next+4) 0 from (fZ _ _ aX).trans adL]
    show (lD.bQ (1,14) (σ.next+4)).bind _=_;rw[aDm,Option.bind_some,show E.P=Tryz.prog from rfl,aDe];rfl
   refine vQ MI rfl (.ay .full [aG.v h]) (fun _ _ _=>(af0 44 1 [(0,.tmp 58)] rfl).trans ?_) ?_
   ·show (zF E 44 1 [(0,(((rJ.put (some 57) (V.aM (1,50) dG 0 hs.length M 3 true)).put (some 58) (aG.v h)).ev E (.tmp 58)))]).map _=_
    rw[show (((rJ.put (some 57) (V.aM (1,50) dG 0 hs.length M 3 true)).put (some 58) (aG.v h)).ev E (.tmp 58))=aG.v h from qj _ _ _,aDd];rfl
   refine TK MI rfl (v:=.aM (1,50) dG 0 (hs.length+1) M 3 true) (σ1:=({lD with next:=lD.next+5}:ak).setObj (1,50) dG (.cells (iT cs (hs.length*3) (aG.c h)))) (fun _ _ _=>?_) ?_
   ·have key:=aDj (σ:=({lD with next:=lD.next+5}:ak)) (st:=lD.next+3) (loc:=some (1,60)) rfl h c1' c2 hn hM
    have kb:nK E true (some (1,60)) ({lD with next:=lD.next+5}:ak) (lD.next+3) .append #[44,44] [.aM (1,50) dG 0 hs.length M 3 true,.ay .full [aG.v h]]=some (.aM (1,50) dG 0 (hs.length+1) M 3 true,({lD with next:=lD.next+5}:ak).setObj (1,50) dG (.cells (iT cs (hs.length*3) (aG.c h)))):=(by unfold nK;show ((#[44,44]:Array TypeId)[0]?).bind (fun t=>(((#[44,44]:Array TypeId)[1]?).bind E.P.underlying).bind _)=_;rw[show ((#[44,44]:Array TypeId)[1]?).bind E.P.underlying=some (.slice 96) from avu];exact key);generalize hfz:((rJ.put (some 57) (V.aM (1,50) dG 0 hs.length M 3 true)).put (some 58) (aG.v h)).put (some 59) (.ay .full [aG.v h])=uP;have z57:uP.ev E (.tmp 57)=V.aM (1,50) dG 0 hs.length M 3 true:=(by rw[<-hfz];exact(fZ _ _ aX).trans ((fZ _ _ aX).trans (qj _ _ _)));have z59:uP.ev E (.tmp 59)= .ay .full [aG.v h]:=(by rw[<-hfz];exact qj _ _ _);have zd:uP.d=1:=(by rw[<-hfz];exact yd);have adN:uP.aj=true:=(by rw[<-hfz];exact yo);show (nK E uP.aj (some (uP.d,60)) _ _ .append #[44,44] [uP.ev E (.tmp 57),uP.ev E (.tmp 59)]).map _=_;rw[z57,z59,zd,adN,kb];rfl
   refine vQ MI rfl (.aM (1,50) dG 0 (hs.length+1) M 3 true) (fun _ _ _=>(Zx (.tmp 60)).trans ?_) rfl;exact congrArg (fun v=>some (v,_,_)) (qj _ _ _)
  ·have z:∀i,i≠12->i≠57->i≠58->i≠59->i≠60->i≠53->i≠54->i≠55->i≠56->i≠14->(((((rJ.set 57 (.aM (1,50) dG 0 hs.length M 3 true)).set 58 (aG.v h)).set 59 (.ay .full [aG.v h])).set 60 (.aM (1,50) dG 0 (hs.length+1) M 3 true)).set 12 (.aM (1,50) dG 0 (hs.length+1) M 3 true)).tm i=fr.tm i:=fun i a0 a1 a2 a3 a4 b1 b2 b3 b4 b5=>by rw[fZ _ _ a0,fZ _ _ a4,fZ _ _ a3,fZ _ _ a2,fZ _ _ a1];exact ty i b1 b2 b3 b4 b5
   refine⟨rfl,z 52 aX aX aX aX aX aX aX aX aX aX,?_⟩;refine⟨yd,yo,?_,?_,?_,?_,?_⟩
   ·rw[z 2 aX aX aX aX aX aX aX aX aX aX];exact hj.t2
   ·rw[z 3 aX aX aX aX aX aX aX aX aX aX];exact hj.t3
   ·rw[qj,RS];rfl
   ·rw[TP aX]
    show lD.bQ (1,3) s3=_;rw[hcB _ _ aX];exact hj.c3
   ·refine⟨_,TN,aDh rfl c2 hn,?_⟩
    rw[RS,List.flatMap_append,List.flatMap_singleton,<-c3];exact aDi rfl c2 hn
theorem aoq {n:Nat}{aj:Bool}{F:Nat->List (fC R)}{I:IR R}{A:bC}{a b:Code}(hj:A.joins=[]){β:Type}{st:aH R.T}{k:Ex->aH R.T->Option β}:fK E R n aj F I A (.seq a b) st k=fK E R n aj F I A a st fun e st=>match e with
 |.normal=>fK E R n aj F I A b st k|e=>k e st:=by
 show (match look A.joins (oW b) with|none=>_|some q=>_)=_;rw[hj];rfl
theorem aDn {e:Ex}{st:aH R.T}{m:List (Int×aG)}(h:PL e st=some m):e= .normal/\look st.fr 7=some (.cu 15)/\look st.fr 3=some (.ref 3 0)/\look st.ob 3=some (.cells [.fn 148 [] [],.fn 150 [] []])/\look st.ob 15=some (.map (.int .i64) (.st 10) m):=by
 unfold PL at h;split at h
 ·have hc:WX st=true:=by
   cases hc:WX st
   ·rw[hc] at h;cases h
   ·rfl
  rw[hc,cond_true] at h;split at h
  ·rename_i m' hm
   unfold WX at hc;split at hc
   ·rename_i h7 h3 h3'
    have:m'=m:=jP h;subst this;exact⟨rfl,h7,h3,h3',hm⟩
   ·cases hc
  ·cases h
 ·cases h
theorem TQ {ρ:aV}{top:Nat->Nat}{l:List V}(h:aI R ρ top [] l):l=[]:=h
theorem aDo {ρ:aV}{top:Nat->Nat}{l:List V}(h:aI R ρ top [.fn 148 [] [],.fn 150 [] []] l):l=[.fn (.func 148) [] [],.fn (.func 150) [] []]:=by obtain⟨v,vs,rfl,h1,v2,vs2,rfl,h2,h3⟩:=h;obtain⟨a,b,rfl,ha,hb⟩:=h1.lG;obtain⟨a2,b2,rfl,ha2,hb2⟩:=h2.lG;rw[TQ ha,TQ hb,TQ ha2,TQ hb2,TQ h3]
def adO:V->aG
 |.agg [.int _ a,.int _ b,.int _ c]=>⟨a,b,c⟩|_=>⟨0,0,0⟩
theorem aDp (h:aG):adO (aG.v h)=h:=rfl
theorem aDq {a b:List aG}(h:(a.map aG.v).Perm (b.map aG.v)):a.Perm b:=by have:=h.map adO;rw[CF,CF] at this;have e:adO∘aG.v=id:=funext aDp;rw[e,List.map_id,List.map_id] at this;exact this
noncomputable def aDr (s3 dG M:Nat):aV:=⟨fun o=>if o=3 then some s3 else if o=50 then some dG else none,fun _=>none,fun o=>if o=50 then M else 0,cZ.main true⟩
theorem aor {ρ:aV}{top:Nat->Nat}:∀hs:List aG,aI R ρ top (hs.flatMap fun x=>(iJ R .any (.st 10) x).cells) (hs.flatMap aG.c)
 | []=>rfl|h::hs=>by exact⟨.int .i64 h.ID,_,rfl,rfl,.int .i64 h.iL,_,rfl,rfl,.int .i64 h.Key,_,rfl,rfl,aor hs⟩
theorem aDs {k:Int}{s3 dG:Nat}{hs:List aG}{fr:Fr}{σ:ak}(hj:AX k s3 dG hs.length hs fr σ):aO (aDr s3 dG hs.length) σ.next (ajE (hs,k)) fr σ where
 d:=hj.d
 aj:=hj.aj
 fr:=fun i v hv=>by
  have hv:(bif Nat.beq 2 i then some (au.int .i64 k) else bif Nat.beq 3 i then some (.ref 3 0) else bif Nat.beq 12 i then some (.aM 50 (.st 10)) else none:Option (au R.T))=some v:=hv;refine .of ?_;cases h2:Nat.beq 2 i
  ·rw[h2,cond_false] at hv
   cases h3:Nat.beq 3 i
   ·rw[h3,cond_false] at hv
    cases h12:Nat.beq 12 i
    ·rw[h12] at hv;cases hv
    ·rw[h12] at hv;cases hv
     rw[<-wo h12,hj.t12];exact .inl ⟨dG,rfl,rfl⟩
   ·rw[h3] at hv;cases hv
    rw[<-wo h3,hj.t3];exact⟨s3,rfl,rfl⟩
  ·rw[h2] at hv;cases hv
   rw[<-wo h2,hj.t2];rfl
 ob:=fun o x hx=>by
  have hx:(bif Nat.beq 3 o then some (bA.cells [.fn 148 [] [],.fn 150 [] []]) else bif Nat.beq 50 o then some (.arr (.st 10) hs) else none:Option (bA R.T))=some x:=hx;cases h3:Nat.beq 3 o
  ·rw[h3,cond_false] at hx
   cases h50:Nat.beq 50 o
   ·rw[h50] at hx;cases hx
   ·rw[h50] at hx;cases hx
    rw[<-wo h50];obtain⟨cs,c1,c2,c3⟩:=hj.cs;refine⟨rfl,.inr ⟨dG,cs,rfl,c1,?_⟩⟩;rw[uM ah] at c3;rw[c3];exact aor hs
  ·rw[h3] at hx;cases hx
   rw[<-wo h3];exact⟨s3,_,rfl,hj.c3,_,_,rfl,⟨[],[],rfl,rfl,rfl⟩,_,_,rfl,⟨[],[],rfl,rfl,rfl⟩,rfl⟩
 inj:=fun t u s h=>bL
 lt:=fun t s h=>bL
 ge:=fun t s h=>bL
 nx:=nI _
theorem aDt {n:Nat}{hs r:List aG}{k:Int}{fr:Fr}{σ:ak}{s3 dG:Nat}(hB:PN n (hs,k)=some r)(hj:AX k s3 dG hs.length hs fr σ):
 dW E WY fr σ fun e bM σ1=>(e= .normal\/e= .ret)/\∃vs,Tryz.f99.results.toList.mapM (lu E bM σ1)=some vs/\bG 20 σ1 (WB vs)=some (lv aG.v r):=by
 unfold PN at hB;refine dW.typed bD xu (PK n) Jr aA rfl hB (aDs hj) (fun e fr' σ' ρ' st' hi' _ hk=>?_);have key:(match sG E R st' [.tmp 6] with
  |some vs=>dQ R FR (ng st' vs)|none=>none)=some r->∃vs,Tryz.f99.results.toList.mapM (lu E fr' σ')=some vs/\bG 20 σ' (WB vs)=some (lv aG.v r):=by
  intro hk;split at hk
  ·rename_i fJ BM
   obtain⟨vs,h1,h2⟩:=FH hi' BM;refine⟨vs,(by exact h1),?_⟩;obtain⟨vs',v1,v2⟩:=I9 bD hi' h2;have c1:=(v2 15).trans (qb bD FR r (ng st' fJ) vs' rfl hk v1 19 σ' aX);have c2:=(v2 16).trans (qb bD FR r (ng st' fJ) vs' rfl hk v1 20 σ' aX);have hl:vs.length=1:=by
    have:∀(l:List V)(m:List V),l.mapM (bG 19 σ')=some m->m.length=l.length:=by
     intro l;induction l with
     |nil=>intro m h;cases h;rfl|cons a l ih=>intro m h;rw[j5] at h;obtain⟨b,hb,h⟩:=iR.1 h;obtain⟨m',hm',h⟩:=iR.1 h;cases h;rw[List.length_cons,List.length_cons,ih m' hm']
    rw[<-this _ _ c1];rfl
   match vs,hl,c2 with
   | [v],_,c2=>rw[j5] at c2;obtain⟨w,hw,c2⟩:=iR.1 c2;have:[w]=aF R FR r:=(by simpa using c2);have:w=lv aG.v r:=(by injection this);rw[<-this];exact hw
  ·cases hk
 unfold ajD at hk;cases e with
 |normal=>exact⟨.inl rfl,key hk⟩|ret=>exact⟨.inr rfl,key hk⟩|exit i=>cases hk
theorem aDu {σ:ak}{loc:aR.Loc}{s:Nat}{ks vs:List V}(h:σ.gB loc s=some (ks,vs)):σ.obj loc=some (s,.map ks vs):=by
 unfold ak.gB at h;split at h
 ·rename_i s' ks' vs' he
  split at h
  ·rename_i hs
   cases h;rw[he,hs]
  ·cases h
 ·cases h
theorem TR {ops:Array Oper}{i:Nat}{o:Oper}(h:ops.toList[i]? =some o):ops[i]? =some o:=by rw[<-Array.getElem?_toList];exact h
theorem TS {ops:Array Oper}{sh:List (Option Tmp×Op×Option (Nat×Bool))}(h:ops.toList.map xE=sh):ops.size=sh.length:=by have:=congrArg List.length h;rw[iG] at this;exact this
theorem aDv (m:List (Int×aG)):(List.zip (m.map fun p=>V.int .i64 p.1) (m.map fun p=>aG.v p.2)).map (·.2)=(m.map (·.2)).map aG.v:=by
 rw[CF];induction m with
 |nil=>rfl|cons p m ih=>exact congrArg (aG.v p.2:: ·) ih
theorem aDw {k:Int}{s3 dG s15:Nat}{m:List (Int×aG)}{fr:Fr}{σ:ak}{c:Code}{Q:Ex->Fr->ak->Prop}(hM:m.length<2^28)(hj:AX k s3 dG m.length [] fr σ)(h7:fr.tm 7= .cu (1,15) s15)(hm:σ.gB (1,15) s15=some (m.map fun p=>V.int .i64 p.1,m.map fun p=>aG.v p.2))(hq:∀hs fr σ,hs.Perm (m.map (·.2))->AX k s3 dG hs.length hs fr σ->dW E c fr σ Q):dW E (.seq (kV [1,1,1,1,0]) c) fr σ Q:=by
 refine dW.seq ?_;rw[aDb];have aos:=TS adJ;have aDx:=TS adK;have aDy:=TS MH;obtain⟨aE0,aE1,aE2,ho0⟩:=opAt (i:=1) adJ rfl;obtain⟨aE3,pos1,aE4,ho1⟩:=opAt (i:=0) adK rfl;obtain⟨ajg,pos2,aE5,ho2⟩:=opAt (i:=0) MH rfl;refine dW.rangeMap xu (N:=0) (k0:=1) (m2:=3) (it:=52) (nx:=53) (more:=54) (pair:=55) (loc:=(1,15)) (st:=s15) (ks:=m.map fun p=>V.int .i64 p.1) (vs:=m.map fun p=>aG.v p.2) (t:=190) (kt:=3) (et:=96) (x:=.tmp 51) (uy:=fr.set 51 (.cu (1,15) s15)) (iy:={σ with next:=σ.next+2})
  (J:=fun done fr σ=>∃hs:List aG,done.map (·.2)=hs.map aG.v/\AX k s3 dG m.length hs fr σ) ?_ aos (TR ho0) rfl rfl rfl (qj _ _ _) ?_ aon aDx (TR ho1) rfl rfl rfl ?_ aDy (TR ho2) rfl rfl rfl ⟨aX,aX,aX⟩ ?_ ?_ ?_
 ·rw[aos]
  show opsL E (dX E 0) adH.toList σ.next [0] fr _=_;refine vQ adJ rfl (.cu (1,15) s15) (fun _ _ _=>(Oh (.tmp 7) (Pw _)).trans ?_) rfl;rw[show fr.ev E (.tmp 7)=fr.tm 7 from rfl,h7]
 ·exact aDu (σ:={σ with next:=σ.next+2}) hm
 ·intro fr σ base b l
  show opsL E (dX E 0) adI.toList base [1] _ _=_;refine vQ adK rfl (.bool b) (fun _ _ _=>(ZA (.tmp 53) 0).trans ?_) rfl;rw[show (fr.put (some 53) (.bB (.bool b::l))).ev E (.tmp 53)= .bB (.bool b::l) from qj _ _ _];rfl
 ·intro p
  refine⟨[],rfl,?_⟩;have z:∀i,i≠51->i≠52->((fr.set 51 (.cu (1,15) s15)).put (some 52) (.raw p)).tm i=fr.tm i:=fun i h1 h2=>(fZ _ _ h2).trans (fZ _ _ h1);refine⟨hj.d,hj.aj,(z 2 aX aX).trans hj.t2,(z 3 aX aX).trans hj.t3,(z 12 aX aX).trans hj.t12,(aoo aX).trans hj.c3,?_⟩;obtain⟨cs,c1,c2,c3⟩:=hj.cs;exact⟨cs,(aoo aX).trans c1,c2,c3⟩
 ·rintro done fr σ kk v ⟨hs,e1,hj⟩ hmem hlt
  have hv:v∈m.map fun p=>aG.v p.2:=(List.of_mem_zip hmem).2;obtain⟨p,_,rfl⟩:=xL.1 hv;have hl:hs.length=done.length:=by have:=congrArg List.length e1;rw[iG,iG] at this;exact this.symm
  rw[List.length_zip,iG,iG,Nat.min_self] at hlt;obtain⟨fI,σ2,g1,g2,g3⟩:=aDk (N:=0) kk p.2 hj ah hM;refine⟨fI,σ2,g1,g2,dW.mono (dW.cw xu g3) ?_⟩;rintro e qX σ3 ⟨rfl,q1,q2⟩;refine⟨rfl,q1,hs++[p.2],?_,q2⟩;rw[nU,nU,e1];rfl
 ·rintro done fr σ ⟨hs,e1,hj⟩ hp
  have h1:(done.map (·.2)).Perm ((List.zip (m.map fun p=>V.int .i64 p.1) (m.map fun p=>aG.v p.2)).map (·.2)):=hp.map _;rw[e1] at h1;have h2:(List.zip (m.map fun p=>V.int .i64 p.1) (m.map fun p=>aG.v p.2)).map (·.2)=(m.map (·.2)).map aG.v:=by exact aDv m
  rw[h2] at h1;have h3:=aDq h1;have hl:hs.length=m.length:=by rw[h3.length_eq,iG]
  refine hq hs _ _ h3 ?_;have z:∀i,i≠53->i≠54->((fr.put (some 53) (.bB [.bool false])).put (some 54) (.bool false)).tm i=fr.tm i:=fun i h1 h2=>(fZ _ _ h2).trans (fZ _ _ h1);rw[<-hl] at hj;exact⟨hj.d,hj.aj,(z 2 aX aX).trans hj.t2,(z 3 aX aX).trans hj.t3,(z 12 aX aX).trans hj.t12,hj.c3,hj.cs⟩
end Sh
end
section
open Go Go.Proofs aR TA
namespace Sh
set_option maxRecDepth 100000
def vR (a b:Int):Int:=bif decide (a<b) then-1 else bif decide (a>b) then 1 else 0
theorem cmp_eq (n:Nat)(a b:Int):UP n (a,b)=some (vR a b):=by
 have h (x:Int):We n x=some false:=(ajG n x).trans (congrArg (some (α:=Bool)) aD);rw[ajH];refine bs (h a) (bs (h b) ?_);show (bif decide (a<b) then some (-1:Int) else bif decide (a>b) then some (1:Int) else some 0)=_;unfold vR;cases decide (a<b)
 ·cases decide (a>b)<;>rfl
 ·rfl
theorem adP (n:Nat)(l:List Int)(m i:Nat)(h:i<l.length):Ai n l (m+1) (i:Int)=bif l[i] !=0 then some (.inr l[i]) else Ai n l m (Go.IntKind.wrap .i64 ((i:Int)+1)):=by rw[ajI];refine kK (dT ah) (bs (ix h) rfl)
theorem aDz (n:Nat)(a b c:Int):Js (n+4) [a,b,c]=some (bif a !=0 then a else bif b !=0 then b else c):=by
 refine(awx (n+4) [a,b,c]).trans ?_;have e0:=adP (n+4) [a,b,c] (n+3) 0 aD;have e1:=adP (n+4) [a,b,c] (n+2) 1 aD;have e2:=adP (n+4) [a,b,c] (n+1) 2 aD;have e3:Ai (n+4) [a,b,c] (n+1) 3=some (.inl ()):=by rw[ajI];exact kX (qL aD) rfl
 have w0:Go.IntKind.wrap .i64 (((0:Nat):Int)+1)=((1:Nat):Int):=aX
 have w1:Go.IntKind.wrap .i64 (((1:Nat):Int)+1)=((2:Nat):Int):=aX
 have w2:Go.IntKind.wrap .i64 (((2:Nat):Int)+1)=3:=aX
 rw[w0] at e0;rw[w1] at e1;rw[w2,e3] at e2;have e:Ai (n+4) [a,b,c] (n+4) 0=bif a !=0 then some (.inr a) else bif b !=0 then some (.inr b) else bif c !=0 then some (.inr c) else some (.inl ()):=by refine e0.trans ?_;show (bif a !=0 then some (Sum.inr a) else Ai (n+4) [a,b,c] (n+3) ((1:Nat):Int))=_;rw[e1];show (bif a !=0 then some (Sum.inr a) else bif b !=0 then some (Sum.inr b) else Ai (n+4) [a,b,c] (n+2) ((2:Nat):Int))=_;rw[e2];rfl
 rw[e];cases ha:a !=0
 ·cases hb:b !=0
  ·cases hc:c !=0
   ·have:c=0:=Us
    rw[this];rfl
   ·rfl
  ·rfl
 ·rfl
def xH (a b:aG):Int:=bif vR a.Key b.Key !=0 then vR a.Key b.Key else bif vR a.ID b.ID !=0 then vR a.ID b.ID else vR a.iL b.iL
theorem aot {n:Nat}(hn:4<=n)(a b:aG):Jt n (a,b)=some (xH a b):=by obtain⟨n,rfl⟩:∃m,n=m+4:=⟨n-4,ah⟩;rw[awy];exact bs (cmp_eq ..) (bs (cmp_eq ..) (bs (cmp_eq ..) (bs (aDz ..) rfl)))
theorem adQ {a b:Int}(h:a<b):vR a b= -1:=by unfold vR;rw[dT h];rfl
theorem adR {a b:Int}(h:b<a):vR a b=1:=by unfold vR;rw[qL ah,dT h];rfl
theorem adS {a b:Int}(h:a=b):vR a b=0:=by unfold vR;rw[qL ah,qL ah];rfl
abbrev jO (a b:aG):Prop:=a.Key<b.Key\/(a.Key=b.Key/\(a.ID<b.ID\/(a.ID=b.ID/\a.iL<b.iL)))
theorem zi (a b:aG):lI a b=true↔jO a b:=by simp[lI,jO]
theorem adT (a b:aG):decide (xH a b< (0:Int))=lI a b:=by
 rw[Bool.eq_iff_iff,zi,decide_eq_true_iff];unfold xH jO;rcases Int.lt_trichotomy a.Key b.Key with h|h|h
 ·rw[adQ h];simp;omega
 ·rw[adS h]
  rcases Int.lt_trichotomy a.ID b.ID with k|k|k
  ·rw[adQ k];simp;omega
  ·rw[adS k]
   rcases Int.lt_trichotomy a.iL b.iL with j|j|j
   ·rw[adQ j];simp;omega
   ·rw[adS j];simp;omega
   ·rw[adR j];simp;omega
  ·rw[adR k];simp;omega
 ·rw[adR h];simp;omega
theorem qN:Ord jO:=⟨fun x y h=>by unfold jO at*;omega,fun x y z h k=>by unfold jO at*;omega⟩
theorem aDA {a b:aG}(h1:a.ID=b.ID)(h2:a.iL=b.iL)(h3:a.Key=b.Key):a=b:=by cases a;cases b;subst h1;subst h2;subst h3;rfl
theorem aou {a b:aG}(h:¬jO b a)(k:¬jO a b):a=b:=by unfold jO at*;exact aDA ah ah ah
theorem aov (x:aG)(l:List aG):(BP x l).Perm (x::l):=by
 induction l with
 |nil=>exact .refl _|cons y l ih=>
  unfold BP;cases lI x y
  ·exact(ih.cons y).trans (.swap ..)
  ·exact .refl _
theorem aDB (x:aG)(l:List aG)(h:l.Pairwise fun a b=>¬jO b a):(BP x l).Pairwise fun a b=>¬jO b a:=by
 induction l with
 |nil=>exact List.pairwise_cons.2 ⟨fun _ h=>bL,.nil⟩
 |cons y l ih=>
  obtain⟨h1,h2⟩:=List.pairwise_cons.1 h;unfold BP;cases hc:lI x y
  ·have hx:¬jO x y:=fun k=>by rw[(zi x y).2 k] at hc;cases hc
   refine List.pairwise_cons.2 ⟨fun z hz=>?_,ih h2⟩;rcases fV.1 ((aov x l).subset hz) with rfl|hz
   ·exact hx
   ·exact h1 z hz
  ·have hx:=(zi x y).1 hc
   refine List.pairwise_cons.2 ⟨fun z hz=>?_,h⟩;have hxy:=qN.asym _ _ hx;rcases fV.1 hz with rfl|hz
   ·exact hxy
   ·exact qN.neg _ _ _ (h1 z hz) hxy
theorem aDC (l:List aG):∀m:List aG,(m.Pairwise fun a b=>¬jO b a)->(l.foldl (fun m x=>BP x m) m).Perm (l++m)/\(l.foldl (fun m x=>BP x m) m).Pairwise fun a b=>¬jO b a:=by
 induction l with
 |nil=>exact fun m h=>⟨.refl _,h⟩
 |cons x l ih=>intro m h;obtain⟨a,b⟩:=ih (BP x m) (aDB x m h);refine⟨a.trans ?_,b⟩;exact((aov x m).append_left l).trans List.perm_middle
theorem TT (l:List aG):(Jp l).Perm l/\(Jp l).Pairwise fun a b=>¬jO b a:=by have:=aDC l [] .nil;rw[nV] at this;exact this
theorem aDD {l r:List aG}(h:r.Perm l)(hs:r.Pairwise fun a b=>¬jO b a):r=Jp l:=
 List.Perm.eq_of_pairwise (le:=fun x y=>¬jO y x) (fun a b _ _ h k=>aou h k) hs (TT l).2 (h.trans (TT l).1.symm)
theorem aDE {n:Nat}(m:List aG){k:Int}(hk:0<=k):PN n (m,k)=some (m.take k.toNat):=by
 rw[awC];have hm:tV k (m.length:Int)=min k (m.length:Int):=by unfold tV;omega
 rw[hm];refine kK ?_ ?_
 ·unfold Vu
  exact dT ah
 ·unfold Bq
  congr 1;rw[show (0+min k (m.length:Int)).toNat=min k.toNat m.length by omega];rw[show ((0:Int)+0).toNat=0 from rfl,CG,List.take_eq_take_iff];omega
def oC (m:List aG):List (Int×aG):=m.map fun h=>(h.ID,h)
theorem aDF (x d:aG)(m:List aG):(((oV (jo R (aR.Ty.int Go.IntKind.i64)) x.ID (oC m)).isSome=false\/lI x (EZ d (oV (jo R (aR.Ty.int Go.IntKind.i64)) x.ID (oC m)))=true)->wT (jo R (aR.Ty.int Go.IntKind.i64)) x.ID x (oC m)=oC (lV x m))/\ ((oV (jo R (aR.Ty.int Go.IntKind.i64)) x.ID (oC m)).isSome=true->lI x (EZ d (oV (jo R (aR.Ty.int Go.IntKind.i64)) x.ID (oC m)))=false->lV x m=m):=by
 induction m with
 |nil=>exact⟨fun _=>rfl,fun h=>bL⟩
 |cons y m ih=>
  have eb:jo R (aR.Ty.int Go.IntKind.i64) x.ID y.ID=(x.ID==y.ID):=rfl;have eg:oV (jo R (aR.Ty.int Go.IntKind.i64)) x.ID (oC (y::m))=bif (x.ID==y.ID) then some y else oV (jo R (aR.Ty.int Go.IntKind.i64)) x.ID (oC m):=rfl;have es:wT (jo R (aR.Ty.int Go.IntKind.i64)) x.ID x (oC (y::m))=bif (x.ID==y.ID) then (x.ID,x)::oC m else (y.ID,y)::wT (jo R (aR.Ty.int Go.IntKind.i64)) x.ID x (oC m):=rfl;rw[eg,es];cases hc:(x.ID==y.ID)
  ·have hn:¬y.ID=x.ID:=fun h=>by rw[h] at hc;simp at hc
   have ei:lV x (y::m)=y::lV x m:=by show (bif decide (y.ID=x.ID) then _ else _)=_;rw[qL hn];rfl
   rw[ei];exact⟨fun h=>congrArg ((y.ID,y):: ·) (ih.1 h),fun h k=>congrArg (y:: ·) (ih.2 h k)⟩
  ·have hn:y.ID=x.ID:=(by simpa using hc:x.ID=y.ID).symm
   have ei:lV x (y::m)=(bif lI x y then x else y)::m:=by show (bif decide (y.ID=x.ID) then _ else _)=_;rw[dT hn];rfl
   rw[ei];refine⟨fun h=>?_,fun _ k=>?_⟩
   ·rcases h with h|h
    ·cases h
    ·have h':lI x y=true:=h
     rw[h'];rfl
   ·have k':lI x y=false:=k
    rw[k'];rfl
theorem aDG (x:aG)(m:List aG):(lV x m).length<=m.length+1:=by
 induction m with
 |nil=>exact iP _|cons y m ih=>
  unfold lV
  cases decide (y.ID=x.ID)
  ·exact Nat.succ_le_succ ih
  ·exact j4 _
theorem aow (l:List aG):(Ag l).length<=l.length:=by
 have:∀m:List aG,(l.foldl (fun m x=>lV x m) m).length<=l.length+m.length:=by
  induction l with
  |nil=>exact fun m=>aD
  |cons x l ih=>intro m;have h1:=ih (lV x m);have h2:=aDG x m;simp only[List.foldl_cons,List.length_cons];omega
 exact this []
theorem aDH {n:Nat}(hn:4<=n){l:List aG}(hl:l.length<2^59):∀k (i m:Nat) (t:List aG),i+k=l.length->k<m->DL n l m ((i:Int),oC t)=some ((),oC ((l.drop i).foldl (fun m x=>lV x m) t)):=by
 intro k;induction k with
 |zero=>intro i m t hi hm;obtain⟨m,rfl⟩:∃m',m=m'+1:=⟨m-1,ah⟩;rw[ajJ,GN ah];exact kX (qL ah) rfl
 |succ k ih=>
  intro i m t hi hm;obtain⟨m,rfl⟩:∃m',m=m'+1:=⟨m-1,ah⟩;have hlt:i<l.length:=ah
  rw[ajJ,uJ hlt,List.foldl_cons];refine kK (dT ah) (bs (ix hlt) (bs (abN ..) ?_));have hst:=aDF l[i] ⟨0,0,0⟩ t;have hw:Go.IntKind.wrap .i64 ((i:Int)+1)=((i+1:Nat):Int):=zf ah;have hI:=ih (i+1) m;have hnot:∀b:Bool,(!(!b))=b:=fun b=>by cases b<;>rfl
  cases hs:(oV (jo R (aR.Ty.int Go.IntKind.i64)) l[i].ID (oC t)).isSome
  ·refine bs (a:=(0:Int)) uI ?_
   refine kK rfl ?_;refine bs (abN ..) ?_;rw[hw];refine(congrArg (fun z=>DL n l m (((i+1:Nat):Int),z)) (hst.1 (.inl hs))).trans ?_;exact hI _ ah ah
  ·refine bs (a:=xH l[i] (EZ ⟨0,0,0⟩ (oV (jo R (aR.Ty.int Go.IntKind.i64)) l[i].ID (oC t)))) (aot hn _ _) ?_
   rw[adT];cases hc:lI l[i] (EZ ⟨0,0,0⟩ (oV (jo R (aR.Ty.int Go.IntKind.i64)) l[i].ID (oC t)))
   ·refine kX rfl ?_
    rw[hw,hst.2 hs hc];exact hI _ ah ah
   ·refine kK rfl ?_
    refine bs (abN ..) ?_;rw[hw];refine(congrArg (fun z=>DL n l m (((i+1:Nat):Int),z)) (hst.1 (.inr hc))).trans ?_;exact hI _ ah ah
theorem aDI {n:Nat}(hn:4<=n){l:List aG}(hl:l.length<n)(hl':l.length<2^59)(k:Int):Jx n ((((),()),((),())),(l,k))=some (oC (Ag l)):=by rw[awz];exact bs (aDH hn hl' l.length 0 n [] ah hl) rfl
theorem aDJ (m:List aG):(oC m).map (·.2)=m:=by unfold oC;rw[CF];exact List.map_id m
end Sh
end
section
namespace aR
open Go Go.RowKit
section
variable {E:Env}{S:kH}{B0 n:Nat}{σ σ' σ1:ak}{K K':aU}{w w':World}{fr fr' bM:Fr}{a:Act}{ds:Bc}{ro:Option Nat}
theorem aDK (hE:kQ E){o:Oper}{c:Call}{f:Operand}{g:FuncId}{first cap:Array Value}{next:Act->World->Prop}{Q:Exit->Act->World->Prop}(hc:o.op= .call c)(hf:c.callee= .value f)(hcf:a.eval f= .func (.func g) first cap)(hbody:Bf E g)(hcall:CallsIn Fence.wide 0 E.P g (first++c.args.map a.eval++cap) w fun e w'=>∃cv,e= .returned cv/\next (a.put o.dst cv) w'):o.wpIn (kE ro) 0 E.P a w next Q:=by
 have hnd:∀d,o.op≠ .defer d:=fun d hd=>by rw[hc] at hd;cases hd
 refine⟨fun _ _=>trivial,?_⟩;rw[Ht _ _ hnd];have hex:(execOp a.eval o).run E.P w= .ok (.enter g (first++c.args.map a.eval++cap)) w:=by unfold execOp;simp only[hc];unfold resolve;simp only[hf,hcf,Deferred.ofValue,Sem.run_bind,Sem.run_pure,Result.andThen_ok,invoke];exact UZ hE hbody _ _
 rw[hex,Oper.uponIn_enter];refine⟨fun hd=>MU,?_⟩;have h2:CallsIn (kE ro) (0-1) E.P g (first++c.args.map a.eval++cap) w (fun e w'=>∃cv,e= .returned cv/\next (a.put o.dst cv) w'):=hcall;refine h2.mono ?_;rintro e w' ⟨cv,rfl,h⟩;exact h
theorem aDL (hE:kQ E)(hS:Sound E S){id:Nat}{ops:Array Oper}{k:Nat}{o:Oper}{Q:Exit->Act->World->Prop}(hsz:ops.size=k+1)(ho:ops[k]? =some o)(hg:o.guard=none)(hpre:opsL E S ops.toList σ.next (List.range k) fr {σ with next:=σ.next+ops.size}=some (bM,σ1))(hs:St E B0 σ K w fr a n ds)(hok:wH n ops.toList=true)(hq:∀a1 K1 w1,St E B0 σ1 K1 w1 bM a1 n ds->Step E B0 (newer σ σ1) σ K w σ1 K1 w1->o.wpIn (kE ro) 0 E.P a1 w1 (fun a2 w2=>Q .normal a2 w2) Q):(Code.region id ops false).wpIn (kE ro) 0 E.P Q a w:=by
 refine wpIn_region ?_;rw[hsz,List.range_succ];refine FK _ _ _ ?_;have hnx:=Bg hS _ _ _ _ _ hpre;simp only at hnx;have hs':St E B0 {σ with next:=σ.next+ops.size} K w fr a n ds:=⟨NP hs.ok _,hs.hB,hs.fr,hs.sz,hs.df,fun s h=>gM (hs.st s h) (gF _ _),hs.hD⟩;refine U0 hE hS ops σ.next hok ro _ (List.range k) fr _ K w a hpre List.nodup_range (fun i hi=>by have:=List.mem_range.1 hi;omega) hs' (iP _) (fun i hi hA=>by have:=hs.st _ hA;omega) ?_;intro a1 K1 w1 hs1 st1;have st':Step E B0 (newer σ σ1) {σ with next:=σ.next+ops.size} K w σ1 K1 w1:=st1.mono (fun s hs=>by
  rcases hs with h|h
  ·exact⟨h.1,ah⟩
  ·exact⟨dJ (gF _ _) h.1,h.2⟩)
 have h1:=hq a1 K1 w1 hs1 ⟨st'.ok,st'.ext,st'.below,st'.D,st'.A,st'.qp,st'.qw⟩;show wpOpsIn (kE ro) 0 E.P ops Q [k] a1 w1;unfold wpOpsIn;rw[ho];simp only[abu hg,if_true];exact h1
theorem aDM {w w':World}(h:Below w.heap.size w w'):∃(q:Nat) (os:Array Obj),w'={w with heap:=w.heap++os,drawn:=w.drawn+q}:=by
 refine⟨w'.drawn-w.drawn,w'.heap.extract w.heap.size w'.heap.size,?_⟩;have hh:w'.heap=w.heap++w'.heap.extract w.heap.size w'.heap.size:=by
  apply Array.ext_getElem?;intro i;rw[Array.getElem?_append];by_cases hi:i<w.heap.size
  ·rw[if_pos hi];exact h.block i hi
  ·rw[if_neg hi,Array.getElem?_extract]
   have hs:=h.size;by_cases h2:i<w'.heap.size
   ·rw[if_pos ah]
    congr 1;omega
   ·rw[if_neg ah,Array.getElem?_eq_none ah]
 have hd:w'.drawn=w.drawn+(w'.drawn-w.drawn):=by have:=h.dr;omega
 have h1:=h.kit.os;have h2:=h.kit.tape;have h3:=h.kit.output;cases w';cases w;simp only at hh hd h1 h2 h3⊢;simp only[World.mk.injEq];exact⟨hh,h2,hd,h1,h3⟩
end
end aR
end
section
namespace Go.Proofs
open Go.Shelf Go.RowKit Go.Lib Go.Sort
shelf_lay_g SlLaysF0.n6 Slsf 6 at Tryz 153 as Tryz.sortHits
end Go.Proofs
end
section
namespace Sh
open Go Go.Proofs Go.Shelf Go.Lib Go.Sort Go.RowKit aR
set_option maxRecDepth 100000
def nD (x:aG):List Value:=[.int .i64 x.ID,.int .i64 x.iL,.int .i64 x.Key]
instance:Inhabited aG:=⟨⟨0,0,0⟩⟩
theorem aDN (x y:aG)(W:World):Calls Tryz.prog 148 #[.agg (nD x).toArray,.agg (nD y).toArray] W fun e w'=>e= .returned (.int .i64 (xH x y))/\∃q os',w'=Go.Sort.grow (W.drewN q) os':=by
 have hp:oK E 148 [aG.v x,aG.v y] (.int .i64 (xH x y)):=(ajz 100 (x,y) (xH x y) (aot aX x y)).ok xu;have hr:∀z:aG,Rel (aU.lend (fun _ _=>False) fun _=>False) (fun _=>0) W (aG.v z) (.agg (nD z).toArray):=fun z=>by
  refine .agg _ _ rfl fun i hi=>?_
  match i,hi with
  |0,_=>exact .int _ _|1,_=>exact .int _ _|2,_=>exact .int _ _
 have hc:=hp.2 (fun _ _=>False) (fun _=>False) W #[.agg (nD x).toArray,.agg (nD y).toArray] ⟨fun b o h=>h.elim,fun b h=>h.elim,fun g cs h=>bL⟩ ⟨rfl,fun i hi=>by
  match i,hi with
  |0,_=>exact hr x|1,_=>exact hr y⟩
 refine(callsIn_wide.1 hc).mono ?_;intro e w' h;cases e with
 |returned c=>obtain⟨h1,h2⟩:=h;obtain⟨q,os,rfl⟩:=aDM h1;cases h2;exact⟨rfl,q,os,rfl⟩
 |panicked ch=>exact h.elim|outgrown=>exact h.elim
theorem aDO:Go.Sort.SWO (ltOf xH):=by
 have e:∀x y,ltOf xH x y=lI x y:=fun x y=>adT x y;have f:∀x y,lI x y=false↔¬jO x y:=fun x y=>by rw[<-zi];simp
 refine⟨fun x=>?_,fun x y z h1 h2=>?_,fun x y z h1 h2=>?_⟩
 ·rw[e,f];exact qN.Eh x
 ·rw[e,zi] at*;exact qN.trans h1 h2
 ·rw[e,f] at*;exact qN.neg _ _ _ h1 h2
theorem flat_get:∀(hs:List aG)(j:Nat)(hj:j<3*hs.length),(hs.flatMap aG.c)[j]? =(aG.c (hs.getD (j/3) default))[j% 3]?
 | [],j,hj=>GI|h::hs,j,hj=>by
  rw[mo];by_cases c:j<3
  ·rw[Eu (by exact c),Nat.div_eq_of_lt c,Nat.mod_eq_of_lt c];rfl
  ·obtain⟨i,rfl⟩:∃i,j=i+3:=⟨j-3,ah⟩
   rw[List.getElem?_append_right (by exact Nat.le_add_left 3 i),show i+3-(aG.c h).length=i from Nat.add_sub_cancel i 3,flat_get hs i (by simp at hj;omega)];rw[show (i+3)/3=i/3+1 by omega,show (i+3)% 3=i% 3 by omega];rfl
theorem aox {K:aU}{T:Nat->Nat}{w:World}{z:aG}{i:Nat}(hi:i<3):∃k n,(aG.c z)[i]? =some (.int k n)/\(nD z)[i]! = .int k n:=by
 match i,hi with
 |0,_=>exact⟨_,_,rfl,rfl⟩|1,_=>exact⟨_,_,rfl,rfl⟩|2,_=>exact⟨_,_,rfl,rfl⟩
theorem aDP {K:aU}{T:Nat->Nat}{w:World}{k:IntKind}{n:Int}{c:Value}(h:Rel K T w (.int k n) c):c= .int k n:=by cases h;rfl
theorem aDQ {d d':Array aG}(h:Go.Sort.PermIn 0 d.size d d'):d'.toList.Perm d.toList/\d'.size=d.size:=by
 obtain⟨h1,_,h3⟩:=h;have e1:d'.extract 0 d.size=d':=by rw[<-h1];simp
 have e2:d.extract 0 d.size=d:=aD
 rw[e1,e2] at h3;exact⟨h3,h1⟩
theorem aDR {d':Array aG}{n:Nat}(hn:d'.size=n)(h:Go.Sort.SortedIn (ltOf xH) 0 n d'):d'.toList.Pairwise fun a b=>¬jO b a:=by
 refine List.pairwise_iff_getElem.2 fun i j hi hj hij=>?_;have hi':i<d'.size:=jm
 have hj':j<d'.size:=ql
 have:=h i j (nI _) hij ah;rw[getElem!_pos d' i hi',getElem!_pos d' j hj'] at this;rw[show ltOf xH d'[j] d'[i]=lI d'[j] d'[i] from adT _ _] at this;intro hl;rw[Array.getElem_toList,Array.getElem_toList] at hl;rw[(zi _ _).2 hl] at this;cases this
noncomputable def TU:Array Oper:=MF (kV [1,1,1,1,1,0])
theorem aDS:kV [1,1,1,1,1,0]= .region 14 TU false:=aA
theorem TV:TU.toList.map xE=[(some 61,.move (.tmp 12),none),(some 62,.fieldAddr 146 (.tmp 3) 0,none),(some 63,.load 143 (.tmp 62),none),(some 64,.call ⟨.value (.func 153), #[.tmp 61,.tmp 63], #[44,143]⟩,none)]:=aA
theorem aDT:xR Tryz.prog 146 0=some (0,143):=aA
theorem aDU:kN Tryz.prog 143 [V.fn (.func 148) [] [],V.fn (.func 150) [] []] 0=some (.fn (.func 148) [] []):=aA
theorem aDV {K:aU}{T:Nat->Nat}{w:World}{hs:List aG}{vals:Array Value}(h:∀i,i< (hs.flatMap aG.c).length->Rel K T w ((hs.flatMap aG.c).getD i aL) (vals.getD i undef)){j:Nat}(hj:j<3*hs.length):vals.getD j undef=(nD (hs.getD (j/3) default))[j% 3]! :=by have h1:=h j (by rw[sK];exact hj);obtain⟨k,n,e1,e2⟩:=aox (K:=K) (T:=T) (w:=w) (z:=hs.getD (j/3) default) (i:=j% 3) ah;rw[rQ,flat_get hs j hj,e1] at h1;rw[e2];exact aDP h1
theorem aoy (hs:List aG){j:Nat}(hj:j<3*hs.length):(flatK nD 3 hs.toArray)[j]! =(nD (hs.getD (j/3) default))[j% 3]! :=by
 have hs3:(hs.toArray.size)=hs.length:=aD
 rw[get_flatK nD 3 hs.toArray j (by rw[hs3];omega)];congr 2;have:j/3<hs.toArray.size:=by rw[hs3];omega
 rw[getElem!_pos hs.toArray (j/3) this,rQ,jc (by rw[<-hs3];exact this)];rfl
theorem aDW {w:World}{b:Nat}{vals:Array Value}{t:TypeId}{fz:Nat×Nat}(h:w.heap[b]? =some (.cells vals t fz)){j:Nat}(hj:j<vals.size):w.cell? ⟨b,j,none⟩=some (vals.getD j undef):=by unfold World.cell?;simp only[h];simp[Array.getD,hj]
theorem Wx {σ:ak}{loc:aR.Loc}{s:Nat}{cs:List V}(h:σ.bQ loc s=some cs):σ.obj loc=some (s,.cells cs):=by
 unfold ak.bQ at h;split at h
 ·rename_i s' cs' he
  split at h
  ·rename_i hs
   cases h;rw[he,hs]
  ·cases h
 ·cases h
theorem aDX {k:Int}{s3 dG:Nat}{hs:List aG}{fr:Fr}{σ:ak}{c:Code}{Q:Ex->Fr->ak->Prop}(hj:AX k s3 dG hs.length hs fr σ)(hn:hs.length<2^28)(hq:∀hs' fr' σ',hs'.Perm hs->(hs'.Pairwise fun a b=>¬jO b a)->AX k s3 dG hs'.length hs' fr' σ'->dW E c fr' σ' Q):dW E (.seq (kV [1,1,1,1,1,0]) c) fr σ Q:=by
 refine dW.seq ?_;rw[aDS];intro ro B0 K w a n ds hst hok hnr;have aoz:=TS TV;have aDY:TU.size=4:=aoz;obtain⟨ty,pos,gG,ho⟩:=opAt (i:=3) TV rfl;obtain⟨cs,c1,c2,c3⟩:=hj.cs;rw[uM ah] at c3;subst c3;have hz:∀bM:Fr,bM=((fr.set 61 (.aM (1,50) dG 0 hs.length hs.length 3 true)).set 62 (.ref (1,3) s3 0)).set 63 (.fn (.func 148) [] [])->bM.tm 61= .aM (1,50) dG 0 hs.length hs.length 3 true/\bM.tm 63= .fn (.func 148) [] []/\bM.d=1/\bM.aj=true/\(∀i,i≠61->i≠62->i≠63->bM.tm i=fr.tm i):=by rintro _ rfl;exact⟨(fZ _ _ aX).trans ((fZ _ _ aX).trans (qj _ _ _)),qj _ _ _,hj.d,hj.aj,fun i h1 h2 h3=>(fZ _ _ h3).trans ((fZ _ _ h2).trans (fZ _ _ h1))⟩
 refine aDL xu (H6 xu 0) (k:=3) (bM:=((fr.set 61 (.aM (1,50) dG 0 hs.length hs.length 3 true)).set 62 (.ref (1,3) s3 0)).set 63 (.fn (.func 148) [] [])) (σ1:={σ with next:=σ.next+4}) aoz (TR ho) rfl ?_ hst hok (fun a1 K1 w1 s1 st1=>?_)
 ·rw[aDY]
  show opsL E (dX E 0) TU.toList σ.next [0,1,2] fr _=_;refine vQ TV rfl (.aM (1,50) dG 0 hs.length hs.length 3 true) (fun _ _ _=>(Oh (.tmp 12) (Pw _)).trans ?_) ?_
  ·rw[show fr.ev E (.tmp 12)=fr.tm 12 from rfl,hj.t12]
  refine vQ TV rfl (.ref (1,3) s3 0) (fun _ _ _=>(afU 146 (.tmp 3) 0).trans ?_) ?_
  ·rw[show E.P=Tryz.prog from rfl,aDT,Option.bind_some,show (fr.put (some 61) (V.aM (1,50) dG 0 hs.length hs.length 3 true)).ev E (.tmp 3)= .ref (1,3) s3 0 from (fZ _ _ aX).trans hj.t3]
   rfl
  refine vQ TV rfl (.fn (.func 148) [] []) (fun _ _ _=>(Zy 143 (.tmp 62)).trans ?_) rfl;rw[show ((fr.put (some 61) (V.aM (1,50) dG 0 hs.length hs.length 3 true)).put (some 62) (V.ref (1,3) s3 0)).ev E (.tmp 62)= .ref (1,3) s3 0 from qj _ _ _];show (σ.bQ (1,3) s3).bind _=_;rw[hj.c3,Option.bind_some,show E.P=Tryz.prog from rfl,aDU];rfl
 ·obtain⟨z61,z63,zd,aDZ,adN⟩:=hz _ rfl
  generalize ((fr.set 61 (.aM (1,50) dG 0 hs.length hs.length 3 true)).set 62 (.ref (1,3) s3 0)).set 63 (.fn (.func 148) [] [])=bM at*;have aoA:64<n:=by have hok':wH n TU.toList=true:=hok;have:=kG.1 hok' _ (by rw[Array.mem_toList_iff];exact Array.mem_of_getElem? (TR ho));exact of_decide_eq_true this
  have zj:∀(hs':List aG)(σ':ak),hs'.length=hs.length->σ'.bQ (1,3) s3=σ.bQ (1,3) s3->σ'.bQ (1,50) dG=some (hs'.flatMap aG.c)->AX k s3 dG hs'.length hs' (bM.set 64 (.bB [])) σ':=fun hs' σ' h1 h2 h3=>by
   have z:∀i,i≠61->i≠62->i≠63->i≠64->(bM.set 64 (.bB [])).tm i=fr.tm i:=fun i a b c d=>(fZ _ _ d).trans (adN i a b c);refine⟨zd,aDZ,(z 2 aX aX aX aX).trans hj.t2,(z 3 aX aX aX aX).trans hj.t3,?_,h2.trans hj.c3,_,h3,sK _,?_⟩
   ·rw[z 12 aX aX aX aX,hj.t12,h1]
   ·rw[uM]
    rw[sK];exact iP _
  have rt:∀(K:aU)(T:Nat->Nat)(w:World),Rel K T w (.bB []) (.tuple #[]):=fun K T w=>.bB _ _ rfl fun i hi=>(by cases hi);refine aDK xu (c:=⟨.value (.func 153), #[.tmp 61,.tmp 63], #[44,143]⟩) (f:=.func 153) (g:=153) (first:= #[]) (cap:= #[]) rfl rfl rfl ⟨Tryz.f153,_,Tryz.func153,rfl⟩ ?_;have hargs:(#[]++(#[.tmp 61,.tmp 63]:Array Operand).map a1.eval++ #[]:Array Value)= #[a1.eval (.tmp 61),a1.eval (.tmp 63)]:=aD
  show CallsIn Fence.wide 0 E.P 153 (#[]++(#[.tmp 61,.tmp 63]:Array Operand).map a1.eval++ #[]) w1 _;rw[hargs];have Yi:Rel K1 σ.top w1 (.aM (1,50) dG 0 hs.length hs.length 3 true) (a1.eval (.tmp 61)):=by rw[<-z61];exact s1.fr 61
  have adU:Rel K1 σ.top w1 (.fn (.func 148) [] []) (a1.eval (.tmp 63)):=by rw[<-z63];exact s1.fr 63
  generalize a1.eval (.tmp 61)=v61 at Yi⊢;generalize a1.eval (.tmp 63)=v63 at adU⊢;have h63:v63= .func (.func 148) #[] #[]:=by
   generalize hl:([]:List V)=l at adU;cases adU with
   |fn _ _ _ j6 bv ha hb UU UW=>subst hl;rw[Array.eq_empty_of_size_eq_zero ha.symm,Array.eq_empty_of_size_eq_zero hb.symm]
  subst h63;by_cases hne:hs=[]
  ·subst hne
   obtain⟨p,cap,rfl⟩:∃p cap,v61= .slice p 0 cap:=by
    cases Yi with
    |aM=>exact⟨_,_,rfl⟩|kP=>exact⟨_,_,rfl⟩
   refine callsIn_wide.2 ?_;have h:=AnyF.slices_SortFunc_none Tryz.sortHits p cap (.func (.func 148) #[] #[]) w1;change Calls Tryz.prog 153 _ _ _ at h;refine h.mono ?_;rintro e w' ⟨rfl,rfl⟩;exact⟨.tuple #[],rfl,.normal,bM.set 64 (.bB []),{σ with next:=σ.next+4},gF _ _,hq [] _ _ (.refl _) .nil (zj [] _ rfl rfl c1),trivial,K1,
    s1.put (d:=some 64) (new:=fun _=>False) (Step.refl s1.ok) (rt _ _ _) (fun i hi=>by cases hi;exact aoA) s1.st,st1⟩
  ·have hM:0<hs.length:=wh.2 hne
   obtain⟨dP,rfl⟩:∃dP,v61= .slice (some (at_ (K1.blk dG) 0)) hs.length dP:=by
    generalize hs.length=M at Yi hM;cases Yi with
    |aM=>exact⟨_,rfl⟩|kP=>exact absurd hM (Nat.lt_irrefl 0)
   have EB:({σ with next:=σ.next+4}:ak).obj (1,50)=some (dG,.cells (hs.flatMap aG.c)):=Wx (σ:=σ) c1;obtain⟨hA,⟨_,gU⟩,hρ⟩:=s1.ok.obj (1,50) dG _ EB;have adV:∀l:List aG,0<l.length->l.flatMap aG.c≠[]:=fun l hl h0=>by have:=congrArg List.length h0;rw[sK,List.length_nil] at this;omega
   obtain⟨hb0,vals,t,g1,g2,g3,g4⟩:=gU (adV hs hM);have hvl:3*hs.length<=vals.size:=by rw[<-sK];exact g3
   have hsz:hs.toArray.size=hs.length:=aD
   have hH:HoldsK nD 3 w1 (K1.blk dG) 0 hs.toArray:=fun j hjj=>by
    have aoB:j<3*hs.length:=(by rw[size_flatK,hsz] at hjj;omega);refine⟨?_,?_⟩
    ·rw[nH,aDW g1 ah,aDV g4 aoB,aoy hs aoB];rfl
    ·unfold World.frozen?
     simp only[g1];simp
   have hblk:K1.blk dG<w1.heap.size:=lt_of_heap g1;have eg:∀args w,(callFunc 148 args).run Tryz.prog w= .ok (.enter 148 args) w:=enters_of Tryz.func148 aA rfl;have h:=AnyQ.slices_SortFunc Tryz.sortHits 3 Tryz.isAgg96 Tryz.sizeOf96 nD (fun _=>rfl) (fun x v hv=>by simp[nD] at hv;rcases hv with rfl|rfl|rfl<;>rfl) xH aDO 148 #[] (K1.blk dG) 0 dP hs.toArray w1 eg (fun m os dk _ x y=>aDN x y _) hH hblk (by rw[hsz];omega);change Calls Tryz.prog 153 _ _ _ at h;rw[hsz] at h;refine callsIn_wide.2 (h.mono ?_);rintro e w' ⟨rfl,d',m,os,hp,hso,rfl⟩;rw[<-hsz] at hp hso;obtain⟨p1,p2⟩:=aDQ hp;have hlen:d'.toList.length=hs.length:=by rw[Array.length_toList,p2,hsz]
   have hd':d'=d'.toList.toArray:=aD
   have ho1:Only (K1.blk dG) w1 (putRowK nD 3 (Go.Sort.ahead w1 m) (K1.blk dG) 0 d'):=⟨rfl,rfl,rfl,by unfold putRowK;rw[Go.Sort.size_putRow];exact iP _,fun k hk _=>by unfold putRowK putRow mapBlock Go.Sort.ahead;simp[Array.getElem?_modify,Ne.symm hk],gF _ _⟩;have hv':(putRowK nD 3 (Go.Sort.ahead w1 m) (K1.blk dG) 0 d').heap[K1.blk dG]? =some (.cells (putCells id 0 (flatK nD 3 d') vals) t (0,0)):=by unfold putRowK putRow mapBlock Go.Sort.ahead;simp[Array.getElem?_modify,g1,onCells]
   have hvs:(putCells id 0 (flatK nD 3 d') vals).size=vals.size:=by simp[putCells]
   have st2:=Step.setCells (new:=fun _=>False) (cs':=d'.toList.flatMap aG.c) s1.ok s1.hB EB (adV hs hM) g1 ho1 hv' hvs (adV _ ah) (by rw[sK,hvs,hlen];exact hvl) (fun _ i hi=>by rw[sK] at hi;obtain⟨k,n,e1,e2⟩:=aox (K:=K1) (T:=σ.top) (w:=w1) (z:=d'.toList.getD (i/3) default) (i:=i% 3) ah;rw[rQ,flat_get _ i hi,e1];have hiv:i<vals.size:=ah;have:(putCells id 0 (flatK nD 3 d') vals).getD i undef= .int k n:=(by have hf:i< (flatK nD 3 d').size:=(by rw[size_flatK,p2,hsz];omega);have hfc:=aoy d'.toList hi;rw[<-hd',e2] at hfc;simp[putCells,Array.getD,hiv];rw[if_pos (by rw[size_flatK] at hf;exact hf),hfc]);rw[this];exact .int k n);have hB2:aR.Below (putRowK nD 3 (Go.Sort.ahead w1 m) (K1.blk dG) 0 d').heap.size (putRowK nD 3 (Go.Sort.ahead w1 m) (K1.blk dG) 0 d') (Go.Sort.grow (putRowK nD 3 (Go.Sort.ahead w1 m) (K1.blk dG) 0 d') os):=⟨⟨rfl,rfl,rfl,by rw[size_grow];exact gF _ _,fun k hk=>by unfold Go.Sort.grow;exact Array.getElem?_append_left hk⟩,iP _⟩;have mV:=Step.grow (new:=fun _=>False) st2.ok (dJ s1.hB st2.below.size) hB2;have pQ:=st2.trans mV;exact⟨.tuple #[],rfl,.normal,bM.set 64 (.bB []),({σ with next:=σ.next+4}:ak).setObj (1,50) dG (.cells (d'.toList.flatMap aG.c)),gF _ _,hq d'.toList _ _ p1 (aDR (by rw[p2]) hso) (zj _ _ hlen (TP aX) TN),trivial,_,
    s1.put (d:=some 64) pQ (rt _ _ _) (fun i hi=>by cases hi;exact aoA) s1.st,st1.trans (pQ.mono fun _ h=>h.elim)⟩
end Sh
end
section
open Go Go.Proofs aR
namespace Sh
set_option maxRecDepth 100000
theorem aD0 {n:Nat}{l:List aG}{k:Int}{m:List (Int×aG)}(hA:Jx n ((((),()),((),())),(l,k))=some m)(hM:m.length<2^28){r:List aG}(hB:∀out:List aG,out.Perm (m.map (·.2))->(out.Pairwise fun a b=>¬jO b a)->PN n (out,k)=some r):oK E 99 [Af,lv aG.v l,.int .i64 k] (lv aG.v r):=by
 refine avV (fn:=Tryz.f99) (c:=.seq (kV [0]) (.seq (kV [1,0]) (.seq (kV [1,1,0]) (.seq (.region 9 TL false) (.seq (kV [1,1,1,1,0]) (.seq (kV [1,1,1,1,1,0]) WY)))))) Tryz.func99 aDc (of_decide_eq_true aA) aA ?_;generalize hfr:({d:=1,aj:=E.aj 99,tm:=fun i=>([Af,lv aG.v l,.int .i64 k]:List V).getD i aL}:Fr)=uy;have f2:uy.tm 2= .int .i64 k:=Ep
 have hi0:aO (R:=R) ⟨fun _=>none,fun _=>none,fun _=>0,cZ.main true⟩ ak.init.next (⟨vk 0 (eF R .sh Ju ((((),()),((),())),(l,k))),[]⟩:aH R.T) uy ak.init:={
  d:=Ep
  aj:=Ep
  fr:=fun i v hv=>by obtain⟨_,h2⟩:=Je _ (aF R Ju ((((),()),((),())),(l,k))) 0 (fun v w=>aB R ⟨fun _=>none,fun _=>none,fun _=>0,cZ.main true⟩ ak.init.top v w) (fun j v hj=>by obtain⟨w,h1,h2⟩:=(xk bD Ju ((((),()),((),())),(l,k)) rfl).get hj;rw[rQ,h1];exact h2) i v hv;rw[show aF R Ju ((((),()),((),())),(l,k))=[Af,lv aG.v l,.int .i64 k] from rfl] at h2;rw[<-hfr];exact .of pq
  ob:=fun o x hx=>by cases hx
  inj:=fun t u s h=>bL
  lt:=fun t s h=>bL
  ge:=fun t s h=>bL
  nx:=nI _}
 unfold Jx ajB at hA;rw[aoq rfl] at hA;refine dW.seq (dW.typed bD xu (PK n) Jr aA rfl hA hi0 (fun e1 bM σ1 jl st1 hi1 aoC hk1=>?_));cases e1 with
 |ret=>cases hk1|exit i=>cases hk1|normal=>
 have hk1:fK E R n true (FQ n) uE WW (.seq (kV [1,0]) (kV [1,1,0])) st1 PL=some m:=hk1;rw[aoq rfl] at hk1;have aoD:=(aoC.ob 1000 aA).aj;have f12:bM.tm 2= .int .i64 k:=(aoC.fr 2 aA).trans f2;refine dW.seq (dW.typed bD xu (PK n) Jr aA (by rw[aoD];rfl) hk1 hi1 (fun e2 fI σ2 uo st2 hi2 aoE hk2=>?_));cases e2 with
 |ret=>cases hk2|exit i=>cases hk2|normal=>
 have hk2:fK E R n true (FQ n) uE WW (kV [1,1,0]) st2 PL=some m:=hk2;have aoF:=((aoE.ob 1000 aA).aj).trans aoD;have f22:fI.tm 2= .int .i64 k:=(aoE.fr 2 aA).trans f12;refine dW.seq (dW.typed bD xu (PK n) Jr aA (by rw[aoF];rfl) hk2 hi2 (fun e3 qX σ3 uz mV hi3 aoG hk3=>?_));obtain⟨rfl,h7,h3,h3',Em⟩:=aDn hk3;have adW:uz.aj=cZ.main true:=((aoG.ob 1000 aA).aj).trans aoF;have t2:qX.tm 2= .int .i64 k:=(aoG.fr 2 aA).trans f22;have lc:∀o,uz.aj.lc o=(1,o):=fun o=>by rw[adW];rfl
 obtain⟨s15,a1,a2⟩:=aB.zZ (show aB R uz σ3.top (.cu 15) (qX.tm 7) from hi3.fr 7 _ h7);obtain⟨s3,b1,b2⟩:=aB.uj (show aB R uz σ3.top (.ref 3 0) (qX.tm 3) from hi3.fr 3 _ h3);obtain⟨s3',c,c1,c2,c3⟩:=(show∃s l,uz.ob 3=some s/\σ3.bQ (uz.aj.lc 3) s=some l/\aI R uz σ3.top [.fn 148 [] [],.fn 150 [] []] l from hi3.ob 3 _ h3');rw[b1] at c1;cases c1;rw[aDo c3] at c2;obtain⟨aE6,m1,m2⟩:=(show∃s,uz.ob 15=some s/\σ3.gB (uz.aj.lc 15) s=some (m.map fun p=>aP R (.int .i64) p.1,m.map fun p=>aP R (.st 10) p.2) from hi3.ob 15 _ Em);rw[a1] at m1;cases m1;rw[lc] at a2 b2 c2 m2;have d3:qX.d=1:=by rw[hi3.d,adW];rfl
 have o3:qX.aj=true:=by rw[hi3.aj,adW];rfl
 refine dW.seq (dW.cw xu (aom (N:=0) (k:=4) (TS TM) (aDg o3 d3 a2 m2 (iG ..) hM) ?_));refine aDw (k:=k) (s3:=s3) (dG:=σ3.next+2) (s15:=s15) (m:=m) hM ⟨d3,o3,?_,?_,qj _ _ _,?_,_,TN,?_,?_⟩ ?_ ?_ (fun hs fr σ hp hj=>aDX hj (by rw[hp.length_eq,iG];exact hM) fun hs' fr' σ' hp' GZ hj'=>aDt (hB hs' (hp'.trans hp) GZ) hj')
 ·exact(fZ _ _ aX).trans ((fZ _ _ aX).trans ((fZ _ _ aX).trans ((fZ _ _ aX).trans t2)))
 ·exact(fZ _ _ aX).trans ((fZ _ _ aX).trans ((fZ _ _ aX).trans ((fZ _ _ aX).trans b2)))
 ·exact(TP aX).trans c2
 ·rw[List.length_flatten,List.map_replicate]
  show (List.replicate m.length 3).sum=_;rw[List.sum_replicate_nat];omega
 ·rfl
 ·exact(fZ _ _ aX).trans ((fZ _ _ aX).trans ((fZ _ _ aX).trans ((fZ _ _ aX).trans a2)))
 ·exact(aDf aX).trans m2
theorem aoH {l:List aG}{k:Int}(hk:0<=k)(hl:l.length<131072):oK E0 99 [Af,lv aG.v l,.int .i64 k] (lv aG.v (sP l k)):=by
 have hb:=aow l;refine awc (aD0 (n:=400000) (m:=oC (Ag l)) (aDI aX ah ah k) ?_ fun out hp hs=>?_)
 ·show ((Ag l).map _).length<2^28
  rw[iG];omega
 ·rw[aDJ] at hp
  rw[aDE out hk,aDD hp hs];rfl
theorem aD1 {l:List aG}{k:Int}(hk:0<=k)(hl:l.length<131072):Ah l k=some (sP l k):=by unfold Ah;exact if_pos (aoH hk hl)
theorem aD2:WK=lv aG.v (sP [⟨1,3,2⟩,⟨2,1,1⟩] 2):=aA
theorem aD3:FP=some true:=by
 unfold FP;refine if_pos ?_;have h:oK E0 99 abD WK:=by rw[aD2];exact aoH aX aX
 exact av5 h
end Sh
end
section
open Go Go.Proofs aR TA
namespace Sh
set_option maxRecDepth 100000
structure BInv (m s:List aG):Prop where
 sub:∀z∈m,z∈s
 adX:(m.map (·.ID)).Nodup
 adY:∀h∈s,∃b∈m,b.ID=h.ID/\¬jO h b
theorem aoI {x:aG}:∀{m:List aG},∀z∈lV x m,z=x\/z∈m
 | [],z,h=>.inl (jk.1 h)|y::m,z,h=>by
  unfold lV at h;cases hc:decide (y.ID=x.ID)
  ·rw[hc] at h
   rcases fV.1 h with rfl|h
   ·exact .inr (iw ..)
   ·exact(aoI z h).imp id (iZ _)
  ·rw[hc] at h
   rcases fV.1 h with h|h
   ·cases hl:lI x y
    ·rw[hl] at h;exact .inr (h▸iw ..)
    ·rw[hl] at h;exact .inl h
   ·exact .inr (iZ _ h)
theorem aoJ {x:aG}:∀{m:List aG},∀i,i∈(lV x m).map (·.ID)↔i=x.ID\/i∈m.map (·.ID)
 | [],i=>by simp[lV]|y::m,i=>by
  unfold lV
  cases hc:decide (y.ID=x.ID)
  ·rw[cond_false,fQ,fV,fQ,fV,aoJ]
   constructor
   ·rintro (h|h|h)<;>simp[h]
   ·rintro (h|h|h)<;>simp[h]
  ·have e:y.ID=x.ID:=of_decide_eq_true hc
   have e2:(bif lI x y then x else y).ID=x.ID:=by cases lI x y<;>simp[e]
   rw[cond_true,fQ,fQ,e2,e,fV];exact⟨.inr,fun h=>h.elim .inl id⟩
theorem aoK {x:aG}:∀{m:List aG},(m.map (·.ID)).Nodup->((lV x m).map (·.ID)).Nodup
 | [],_=>by simp[lV]|y::m,h=>by
  obtain⟨h1,h2⟩:=uK.1 (show (y.ID::m.map (·.ID)).Nodup from h);unfold lV
  cases hc:decide (y.ID=x.ID)
  ·have hn:¬y.ID=x.ID:=of_decide_eq_false hc
   rw[cond_false,fQ];refine uK.2 ⟨fun hm=>?_,aoK h2⟩;rcases (aoJ _).1 hm with e|e
   ·exact hn e
   ·exact h1 e
  ·have e:y.ID=x.ID:=of_decide_eq_true hc
   have e2:(bif lI x y then x else y).ID=y.ID:=by cases lI x y<;>simp[e]
   rw[cond_true,fQ,e2];exact uK.2 ⟨h1,h2⟩
theorem adZ {x:aG}:∀{m:List aG},(∀z∈m,∃w∈lV x m,w.ID=z.ID/\¬jO z w)/\∃w∈lV x m,w.ID=x.ID/\¬jO x w
 | []=>⟨fun z h=>bL,x,jk.2 rfl,rfl,qN.Eh x⟩
 |y::m=>by
  obtain⟨i1,i2⟩:=adZ (x:=x) (m:=m);unfold lV
  cases hc:decide (y.ID=x.ID)
  ·refine⟨fun z hz=>?_,?_⟩
   ·rcases fV.1 hz with rfl|hz
    ·exact⟨z,iw ..,rfl,qN.Eh z⟩
    ·obtain⟨w,w1,w2⟩:=i1 z hz
     exact⟨w,iZ _ w1,w2⟩
   ·obtain⟨w,w1,w2⟩:=i2
    exact⟨w,iZ _ w1,w2⟩
  ·have e:y.ID=x.ID:=of_decide_eq_true hc
   have keep:∀z∈m,∃w∈(bif lI x y then x else y)::m,w.ID=z.ID/\¬jO z w:=fun z hz=>⟨z,iZ _ hz,rfl,qN.Eh z⟩;cases hl:lI x y
   ·have hn:¬jO x y:=fun k=>by rw[(zi x y).2 k] at hl;cases hl
    rw[hl] at keep;refine⟨fun z hz=>?_,y,iw ..,e,hn⟩;rcases fV.1 hz with rfl|hz
    ·exact⟨z,iw ..,rfl,qN.Eh z⟩
    ·exact keep z hz
   ·have hy:=(zi x y).1 hl
    rw[hl] at keep;refine⟨fun z hz=>?_,x,iw ..,rfl,qN.Eh x⟩;rcases fV.1 hz with rfl|hz
    ·exact⟨x,iw ..,e.symm,qN.asym _ _ hy⟩
    ·exact keep z hz
theorem aD4 (l:List aG):∀m s:List aG,BInv m s->BInv (l.foldl (fun m x=>lV x m) m) (s++l):=by
 induction l with
 |nil=>intro m s h;rw[nV];exact h|cons x l ih=>
  intro m s h;have:=ih (lV x m) (s++[x]) ⟨fun z hz=>?_,aoK h.adX,fun z hz=>?_⟩
  ·rw[jR] at this;exact this
  ·rcases aoI z hz with rfl|hz
   ·exact wm _ (jk.2 rfl)
   ·exact uL _ (h.sub z hz)
  ·rcases nG.1 hz with hz|hz
   ·obtain⟨b,b1,b2,b3⟩:=h.adY z hz
    obtain⟨w,w1,w2,w3⟩:=adZ.1 b b1;exact⟨w,w1,w2.trans b2,qN.neg _ _ _ b3 w3⟩
   ·rw[jk.1 hz];exact adZ.2
theorem aD5 (l:List aG):BInv (Jp (Ag l)) l:=by have h:=aD4 l [] [] ⟨fun z h=>bL,List.nodup_nil,fun h hh=>(by cases hh)⟩;rw[List.nil_append] at h;have hp:=(TT (Ag l)).1;exact⟨fun z hz=>h.sub z (hp.subset hz),(hp.map _).nodup_iff.2 h.adX,fun x hx=>by obtain⟨b,b1,b2⟩:=h.adY x hx;exact⟨b,hp.symm.subset b1,b2⟩⟩
theorem aoL {α:Type}{P:α->Prop}{c:Bool}{o o':Option α}(h:c=true)(k:∃r,o=some r/\P r):∃r,(bif c then o else o')=some r/\P r:=zl
theorem gS {α β:Type}{P:β->Prop}{o:Option α}{a:α}{f:α->Option β}(h:o=some a)(k:∃r,f a=some r/\P r):∃r,o.bind f=some r/\P r:=zl
theorem aD6 {n:Nat}{l:List aG}{d:Int}(hn:l.length<n)(hb:l.length<2^60):LD n (l,d)=some (decide (d∈l.map (·.ID))):=by
 have key:∀(k i m:Nat),i+k=l.length->k<m->Tk n l d m (i:Int)=some (bif decide (d∈(l.drop i).map (·.ID)) then .inr true else .inl ()):=by
  intro k;induction k with
  |zero=>intro i m hi hm;obtain⟨m,rfl⟩:∃m',m=m'+1:=⟨m-1,ah⟩;rw[anq,qK ah,GN ah];rfl
  |succ k ih=>
   intro i m hi hm;obtain⟨m,rfl⟩:∃m',m=m'+1:=⟨m-1,ah⟩;have hlt:i<l.length:=ah
   rw[anq,zf ah,uJ hlt];refine kK (dT ah) (bs (ix hlt) ?_);cases hc:(l[i].ID==d)
   ·refine kX rfl ((ih (i+1) m ah ah).trans ?_)
    have hne:¬d=l[i].ID:=fun e=>by rw[e] at hc;simp at hc
    congr 2;rw[fQ,decide_eq_decide,fV];exact⟨.inr,fun h=>h.resolve_left hne⟩
   ·have he:d=l[i].ID:=(by simpa using hc:l[i].ID=d).symm
    refine kK rfl ?_;rw[fQ,dT (fV.2 (.inl he))];rfl
 rw[aBm];refine bs (key l.length 0 n ah hn) ?_;rw[CG];cases decide (d∈l.map (·.ID))<;>rfl
theorem aD7 (n:Nat)(a b:aG):LH n (a,b)=some (lI a b):=by
 rw[aBn];have hl:lI a b=decide (jO a b):=by rw[Bool.eq_iff_iff,zi,decide_eq_true_iff]
 rw[hl];by_cases h:a.Key=b.Key
 ·refine kX Cx ?_
  by_cases k:a.ID=b.ID
  ·refine kX (by simp[k]) (congrArg some (decide_eq_decide.2 ?_))
   unfold jO;omega
  ·refine kK (by simpa using k) (congrArg some (decide_eq_decide.2 ?_))
   unfold jO;omega
 ·refine kK xJ (congrArg some (decide_eq_decide.2 ?_))
  unfold jO;omega
def MJ (l:List aG)(ids:List Int)(i:Nat)(r:Int):Prop:=(r= -1/\∀h∈l.take i,h.ID∈ids)\/∃(b:Nat) (x:aG),r=(b:Int)/\l[b]? =some x/\x.ID∉ids/\∀h∈l.take i,h.ID∉ids->¬jO h x
theorem aD8 {n:Nat}{l out:List aG}(hn:l.length<n)(hb:l.length<2^59)(ho:out.length<n)(gU:out.length<2^59):∃r:Int,F4 n (l,out)=some r/\MJ l (out.map (·.ID)) l.length r:=by
 have key:∀(k i m:Nat)(r:Int),i+k=l.length->k<m->MJ l (out.map (·.ID)) i r->∃r':Int,Ch n l out m (r,(i:Int))=some r'/\MJ l (out.map (·.ID)) l.length r':=by
  intro k;induction k with
  |zero=>
   intro i m r hi hm h;obtain⟨m,rfl⟩:∃m',m=m'+1:=⟨m-1,ah⟩;obtain rfl:i=l.length:=ah
   exact⟨r,by rw[anr];exact kX (qL ah) rfl,h⟩
  |succ k ih=>
   intro i m r hi hm h;obtain⟨m,rfl⟩:∃m',m=m'+1:=⟨m-1,ah⟩;have hlt:i<l.length:=ah
   have ht:l.take (i+1)=l.take i++[l[i]]:=by rw[List.take_add_one,jc hlt];rfl
   have cont:∀r',MJ l (out.map (·.ID)) (i+1) r'->∃r'':Int,Ch n l out m (r',Go.IntKind.wrap .i64 ((i:Int)+1))=some r''/\MJ l (out.map (·.ID)) l.length r'':=fun r' h'=>by rw[zf ah];exact ih (i+1) m r' ah ah h'
   have new:l[i].ID∉out.map (·.ID)->(∀h∈l.take i,h.ID∉out.map (·.ID)->¬jO h l[i])->MJ l (out.map (·.ID)) (i+1) (i:Int):=fun h1 h2=>.inr ⟨i,l[i],rfl,jc hlt,h1,fun z hz hzn=>by
    rw[ht] at hz;rcases nG.1 hz with hz|hz
    ·exact h2 z hz hzn
    ·rw[jk.1 hz];exact qN.Eh _⟩
   rw[anr];refine aoL (dT ah) (gS (ix hlt) (gS (aD6 ho ah) ?_));by_cases c:l[i].ID∈out.map (·.ID)
   ·rw[dT c]
    refine cont r ?_;rcases h with ⟨h1,h2⟩| ⟨b,x,h1,h2,h3,h4⟩
    ·refine .inl ⟨h1,fun z hz=>?_⟩
     rw[ht] at hz;rcases nG.1 hz with hz|hz
     ·exact h2 z hz
     ·rw[jk.1 hz];exact c
    ·refine .inr ⟨b,x,h1,h2,h3,fun z hz hzn=>?_⟩
     rw[ht] at hz;rcases nG.1 hz with hz|hz
     ·exact h4 z hz hzn
     ·rw[jk.1 hz] at hzn;exact absurd c hzn
   ·rw[qL c]
    rcases h with ⟨h1,h2⟩| ⟨b,x,h1,h2,h3,h4⟩
    ·subst h1
     exact cont _ (new c fun z hz hzn=>absurd (h2 z hz) hzn)
    ·subst h1
     refine aoL (o:=_) (c:= !(decide ((b:Int)<0))) (by rw[qL ah];rfl) (gS (ix hlt) (gS (eB h2) (gS (aD7 ..) ?_)));cases hc:lI l[i] x
     ·have hnl:¬jO l[i] x:=fun k=>by rw[(zi _ _).2 k] at hc;cases hc
      refine cont _ (.inr ⟨b,x,rfl,h2,h3,fun z hz hzn=>?_⟩);rw[ht] at hz;rcases nG.1 hz with hz|hz
      ·exact h4 z hz hzn
      ·rw[jk.1 hz];exact hnl
     ·have hl:=(zi _ _).1 hc
      exact cont _ (new c fun z hz hzn=>qN.neg _ _ _ (h4 z hz hzn) (qN.asym _ _ hl))
 obtain⟨r,h1,h2⟩:=key l.length 0 n (-1) ah hn (.inl ⟨rfl,fun h hh=>(by cases hh)⟩);exact⟨r,by rw[aBo];exact bs h1 rfl,h2⟩
theorem aD9 {n:Nat}{l:List aG}{k:Int}(hn:l.length<n)(hk0:0<=k)(hk:k<=64)(hn2:100<n)(hb:l.length<2^29):F5 n (l,k)=some (sP l k):=by
 have hI:=aD5 l;have hS:=(TT (Ag l)).2;unfold sP;generalize hSS:Jp (Ag l)=S at hI hS;have aEa:∀i j (hi:i<S.length) (hj:j<S.length),S[i].ID=S[j].ID->i=j:=fun i j hi hj e=>by
  have hp:=List.pairwise_iff_getElem.1 hI.adX;rcases Nat.lt_trichotomy i j with h|h|h
  ·exact absurd (by rw[CB,CB];exact e) (hp i j jm ql h)
  ·exact h
  ·exact absurd (by rw[CB,CB];exact e.symm) (hp j i ql jm h)
 have memT:∀j i (hi:i<S.length),S[i].ID∈(S.take j).map (·.ID)->i<j:=fun j i hi hm=>by obtain⟨z,hz,e⟩:=xL.1 hm;obtain⟨q,hq,e2⟩:=List.mem_take_iff_getElem.1 hz;have:=aEa q i ah hi (by rw[e2];exact e);omega
 have key:∀(q j m:Nat),q+j=k.toNat->q<m->j<=S.length->∃r:List aG⊕List aG,Gm n l k m (S.take j)=some r/\Sum.elim id id r=S.take k.toNat:=by
  intro q;induction q with
  |zero=>
   intro j m hj hm hl;obtain⟨m,rfl⟩:∃m',m=m'+1:=⟨m-1,ah⟩;have e:(S.take j).length=j:=Cu
   refine⟨.inl (S.take j),?_,by rw[show k.toNat=j by omega];rfl⟩;rw[ant,e];exact kX (qL ah) rfl
  |succ q ih=>
   intro j m hj hm hl;obtain⟨m,rfl⟩:∃m',m=m'+1:=⟨m-1,ah⟩;have e:(S.take j).length=j:=Cu
   obtain⟨r,r1,r2⟩:=aD8 (out:=S.take j) hn ah (by rw[e];omega) (by rw[e];omega);have go:∀z,(bif decide ((((S.take j).length:Nat):Int)<k) then (F4 n (l,S.take j)).bind (fun (r4:Int)=>bif decide (r4< (0:Int)) then some (.inr (S.take j)) else (aN l r4).bind fun (r5:aG)=>bif dB ((S.take j).length+([r5].length)) 24 then Gm n l k m (S.take j++[r5]) else none) else some (.inl (S.take j)))=z->Gm n l k (m+1) (S.take j)=z:=fun z hz=>(ant ..).trans hz
   rcases r2 with ⟨h1,h2⟩| ⟨b,x,h1,h2,h3,h4⟩
   ·have hle:S.length<=j:=by refine Nat.le_of_not_lt fun hlt=>?_;have:=h2 S[j] (by rw[List.take_length];exact hI.sub _ (jQ hlt));have:=memT j j hlt this;omega
    refine⟨.inr (S.take j),go _ (kK (dT (by rw[e];omega)) (bs r1 (kK (dT ah) rfl))),?_⟩;show S.take j=_;rw[uM hle,uM ah]
   ·rw[List.take_length] at h4
    have hxl:x∈l:=pF h2;obtain⟨w,w1,w2,w3⟩:=hI.adY x hxl;obtain⟨i,hi,rfl⟩:=List.getElem_of_mem w1;have hij:j<=i:=(by refine Nat.le_of_not_lt fun hlt=>h3 ?_;rw[<-w2];exact xL.2 ⟨S[i],List.mem_take_iff_getElem.2 ⟨i,ah,rfl⟩,rfl⟩);have hjl:j<S.length:=ah;have hx:x=S[j]:=by
     refine aou (h4 S[j] (hI.sub _ (jQ hjl)) fun hm=>?_) ?_
     ·have:=memT j j hjl hm;omega
     ·refine qN.neg _ _ _ w3 ?_
      by_cases c:i=j
      ·subst c;exact qN.Eh _
      ·exact List.pairwise_iff_getElem.1 hS j i hjl hi ah
    obtain⟨r',q1,q2⟩:=ih (j+1) m ah ah ah;refine⟨r',go _ (kK (dT (by rw[e];omega)) (bs r1 (kX (qL ah) (bs (a:=x) (by rw[h1];exact eB h2) ?_)))),q2⟩;have ht:S.take (j+1)=S.take j++[x]:=(by rw[List.take_add_one,jc hjl,hx];rfl);rw[<-ht,Ee (by rw[e];simp;omega) ah,cond_true];exact q1
 obtain⟨r,h1,h2⟩:=key k.toNat 0 n ah ah ah;rw[aBp];refine bs h1 ?_;rw[<-h2];cases r<;>rfl
theorem aEb {n:Nat}{l:List aG}{k:Int}(hk:0<=k)(hl:l.length<131072):UX n (l,k)=some (sP l k):=by rw[aA6];refine bs (aA5 n) (bs (a:=sP l k) ?_ rfl);unfold RH;exact aD1 hk hl
end Sh
end
section
open Go Go.Proofs aR
namespace Sh
set_option maxRecDepth 100000
theorem aEc {n:Nat}{s:aJ}{b:Book}(hb:mO n s b){c:Int}(h0:0<=c)(h1:c<=b.aS):∃d:Int,Kw n (b,c)=some d/\Lh n (b,c)=some d:=by
 have hc:=hb.commit;have hd:=hb.days;rw[aAn,aBb];by_cases z:c=0
 ·subst z
  exact⟨0,kK uI rfl,kK uI rfl⟩
 ·obtain⟨x,hx,_⟩:=Cj (l:=b.bV) (i:=c.toNat-1) ah
  have hw:Go.IntKind.wrap .i64 (c-(1:Int))=((c.toNat-1:Nat):Int):=zk
  refine⟨x,kX (by simpa using z) ?_,kX ?_ ?_⟩
  ·rw[hw];exact bs hx rfl
  ·rw[decide_eq_false ah,decide_eq_false ah];rfl
  ·rw[hw];exact bs hx rfl
theorem aEd {n:Nat}{s:aJ}{b:Book}{q:Query}(hn:2^20<n)(hbs:b.aJ=s)(hmet:s.fU=1\/s.fU=2\/s.fU=3)(hq:TD q n)(hv:vM q.Vec)(hvl:((q.Vec.length:Nat):Int)=s.eH){D:List Entry}(hD:D.length<=65536)(hE:∀e∈D,Gv n s e):
 ∀(k i m m':Nat)(acc:List aG),i+k=D.length->k<m->k<m'->acc.length<=i->∃H:List aG,Ml n b q D m (acc,(i:Int))=some H/\Gl n s D q m' (acc,(i:Int))=some H/\H.length<=D.length:=by
 obtain⟨hq1,hq2⟩:=hq;intro k;induction k with
 |zero=>intro i m m' acc hi hm hm' ha;obtain⟨m,rfl⟩:∃z,m=z+1:=⟨m-1,ah⟩;obtain⟨m',rfl⟩:∃z,m'=z+1:=⟨m'-1,ah⟩;exact⟨acc,by rw[ang];exact kX (decide_eq_false ah) rfl,by rw[anp];exact kX (decide_eq_false ah) rfl,ah⟩
 |succ k ih=>
  intro i m m' acc hi hm hm' ha;obtain⟨m,rfl⟩:∃z,m=z+1:=⟨m-1,ah⟩;obtain⟨m',rfl⟩:∃z,m'=z+1:=⟨m'-1,ah⟩;have hlt:i<D.length:=ah
  have hx:D[i]? =some D[i]:=jc hlt;obtain⟨⟨_,_,a3,a4,_⟩,w1,w2⟩:=hE _ (jQ hlt);generalize D[i]=x at hx a3 a4 w1 w2;have hl:q.Vec.length=x.Vec.length:=ah
  have k1:Wl n (b.aJ.fU,(q.Vec,x.Vec))=some (zU s.fU q.Vec x.Vec):=by rw[hbs];exact aCp ah hmet hv w1 hl
  have k2:WF n (s.fU,(q.Vec,x.Vec))=some (zU s.fU q.Vec x.Vec):=aCq ah hmet hv w1 hl;have h1:UI n (q.Where,x.bU)=some (jN x.bU q.Where):=aB7 a3 a4 hq1 hq2;have h2:DX n (q.Where,x.bU)=some (jN x.bU q.Where):=aB8 a3 a4 ah hq2;generalize zU s.fU q.Vec x.Vec=key at k1 k2;generalize jN x.bU q.Where=hb at h1 h2;rw[ang,anp,gJ ah,jY hx];have rm:∀y:aG,dB (acc.length+[y].length) 24=true:=fun y=>Ee eY ah;by_cases c:key<=q.Within
  ·have hw:jS (decide (key<=q.Within)) (UI n (q.Where.re,x.bU)) false=some hb:=by rw[Pred.lH,decide_eq_true c];exact h1
   cases hb
   ·obtain⟨H,g1,g2,g3⟩:=ih (i+1) m m' acc ah ah ah ah
    refine⟨H,?_,?_,g3⟩
    ·refine bs (eB hx) (bs k1 (bs hw ?_))
     rw[decide_eq_true c];exact g1
    ·refine bs (eB hx) (bs k2 ?_)
     rw[decide_eq_true c];refine bs (eB hx) (bs (a:=false) (by rw[Pred.lH];exact h2) ?_);exact g2
   ·obtain⟨H,g1,g2,g3⟩:=ih (i+1) m m' (acc++[⟨x.ID,x.iL,key⟩]) ah ah ah (by rw[RS];simp;omega)
    refine⟨H,?_,?_,g3⟩
    ·refine bs (eB hx) (bs k1 (bs hw ?_))
     rw[decide_eq_true c];exact kK rfl (kK (rm _) g1)
    ·refine bs (eB hx) (bs k2 ?_)
     rw[decide_eq_true c];refine bs (eB hx) (bs (a:=true) (by rw[Pred.lH];exact h2) ?_);exact bs (eB hx) (bs (eB hx) (kK (rm _) g2))
  ·have hw:jS (decide (key<=q.Within)) (UI n (q.Where.re,x.bU)) false=some false:=by rw[decide_eq_false c];rfl
   obtain⟨H,g1,g2,g3⟩:=ih (i+1) m m' acc ah ah ah ah;refine⟨H,?_,?_,g3⟩
   ·refine bs (eB hx) (bs k1 (bs hw ?_))
    rw[decide_eq_false c];exact g1
   ·refine bs (eB hx) (bs k2 ?_)
    rw[decide_eq_false c];exact g2
theorem aEe {n:Nat}{s:aJ}{b:Book}{q:Query}(hn:2^21<n)(hs:oz s n)(hb:mO n s b)(hm:s.fU=1\/s.fU=2\/s.fU=3)(hq:TD q n)(hv:q.Vec.length<=40):∃(H:List aG) (e:Int),Lc n (b,q)=some (H,e)/\LP n (b,q)=some ⟨H,e⟩/\H.length<=65536:=by
 obtain⟨e,e1,e2⟩:=an7 (n:=n) (s:=s) (q:=q) ah hs hq hv;rw[aA7,aBq,Pred.lH,hb.schema];generalize he:Gu s q e=r at e1 e2;cases hr:(r !=(0:Int))
 ·have hr0:r=0:=by simpa using hr
  rw[hr0] at he;obtain⟨v1,v2,k1,k2,c0⟩:=aCx he;by_cases c:q.At.aS>b.aS
  ·refine⟨[],9,bs e1 (kX hr ?_),bs e2 (kX hr ?_),aD⟩
   ·rw[decide_eq_true c];rfl
   ·rw[decide_eq_true c];rfl
  ·obtain⟨d,d1,d2⟩:=aEc hb c0 (show q.At.aS<=b.aS by omega)
   by_cases cd:q.At.Day>d
   ·refine⟨[],9,bs e1 (kX hr ?_),bs e2 (kX hr ?_),aD⟩
    ·rw[decide_eq_false c]
     refine bs (a:=d) (by rw[<-hb.schema];exact d1) (kK (decide_eq_true cd) rfl)
    ·rw[decide_eq_false c]
     refine bs (a:=d) (by rw[<-hb.schema];exact d2) (kK (decide_eq_true cd) rfl)
   ·obtain⟨D,g1,g2,g3,g4⟩:=aol (n:=n) (b:=b) (a:=q.At) hb.rows ah
    have hD:D.length<=65536:=dJ g3 hb.rows;obtain⟨H,h1,h2,h3⟩:=aEd (n:=n) (s:=s) (b:=b) (q:=q) ah hb.schema hm hq v1 v2 hD (fun x hx=>by obtain⟨r,hr,rfl⟩:=g4 x hx;exact hb.row r hr) D.length 0 n n [] ah ah ah aD;have o1:UX n (H,q.K)=some (sP H q.K):=aEb ah ah;have o2:F5 n (H,q.K)=some (sP H q.K):=aD9 ah ah k2 ah ah;have hlen:(sP H q.K).length<=H.length:=(by unfold sP;rw[j3,(TT (Ag H)).1.length_eq];exact dJ (Nat.min_le_right _ _) (aow H));refine⟨sP H q.K,0,bs e1 (kX hr ?_),bs e2 (kX hr ?_),ah⟩
    ·rw[decide_eq_false c]
     refine bs (a:=d) (by rw[<-hb.schema];exact d1) (kX (decide_eq_false cd) ?_);refine bs (a:=D) (by rw[<-hb.schema];exact g1) ?_;refine bs (a:=H) h1 (bs o1 rfl)
    ·rw[decide_eq_false c]
     refine bs (a:=d) (by rw[<-hb.schema];exact d2) (kX (decide_eq_false cd) ?_);refine bs (a:=D) (by rw[<-hb.schema];exact g2) ?_;refine bs (a:=H) ?_ (bs o2 rfl);rw[aBl];exact bs h2 rfl
 ·exact⟨[],r,bs e1 (kK hr rfl),bs e2 (kK hr rfl),aD⟩
theorem aEf {n:Nat}{s:aJ}{l:List Entry}(ht:∀e∈l,Gv n s e)(hn:2^20<n)(hb:l.length<=65536):Ma n (l,l)=some true:=by
 have h4:∀(k i m:Nat),i+k=l.length->k<m->Tq n l l m (i:Int)=some (.inl ()):=by
  intro k;induction k with
  |zero=>intro i m hi hm;obtain⟨m,rfl⟩:∃m',m=m'+1:=⟨m-1,ah⟩;rw[anx,qK ah];rfl
  |succ k ih=>
   intro i m hi hm;obtain⟨m,rfl⟩:∃m',m=m'+1:=⟨m-1,ah⟩;have hlt:i<l.length:=ah
   have hx:l[i]? =some l[i]:=jc hlt;obtain⟨c,hc,_⟩:=aBZ (ht _ (jQ hlt)).1.2.2.2.2 hn;have hs:L8 n (l[i],l[i])=some true:=by rw[aBx];refine bs hc (bs hc ?_);simp
   rw[anx,gJ ah];exact kK (jY hx) (bs (eB hx) (bs (eB hx) (bs hs (kX rfl (ih (i+1) m ah ah)))))
 rw[aBy];exact kX aD (bs (h4 l.length 0 n ah ah) rfl)
theorem aEg {n:Nat}{l:List aG}(hn:l.length<n)(hb:l.length<2^62):Md n (l,l)=some true:=by
 have h4:∀(k i m:Nat),i+k=l.length->k<m->Tt n l l m (i:Int)=some (.inl ()):=by
  intro k;induction k with
  |zero=>intro i m hi hm;obtain⟨m,rfl⟩:∃m',m=m'+1:=⟨m-1,ah⟩;rw[anz,qK ah];rfl
  |succ k ih=>
   intro i m hi hm;obtain⟨m,rfl⟩:∃m',m=m'+1:=⟨m-1,ah⟩;have hlt:i<l.length:=ah
   have hx:l[i]? =some l[i]:=jc hlt;rw[anz,gJ ah];exact kK (jY hx) (bs (eB hx) (bs (eB hx) (kX aD (ih (i+1) m ah ah))))
 rw[aBz];exact kX aD (bs (h4 l.length 0 n ah hn) rfl)
theorem aEh {n:Nat}{s:aJ}{l:List Event}(hn:2^20<n)(hs:oz s n)(hl:l.length<n)(hb:l.length<2^62)(he:∀e∈l,adt e n):∃b:Bool,WP n (s,l)=some b/\(b=true->BQ n s=some (0:Int)/\∀e∈l,TF e n):=by
 obtain⟨a,ha⟩:=aBK (n:=n) (s:=s) (k:=20) hs;obtain⟨c,hc⟩:=anG (n:=n) (s:=s) hs ah;have hse:anH l n:=⟨hl,hb,fun x hx=>⟨(he x hx).2.2.1,(he x hx).2.2.2⟩⟩;obtain⟨f,hf⟩:=aBL (n:=n) (l:=l) (k:=25) hse;rw[azP];cases a
 ·exact⟨false,bs ha (bs (a:=(0:Int)) rfl (bs (a:=false) rfl rfl)),fun h=>bL⟩
 ·cases hc0:(c==(0:Int))
  ·refine⟨false,bs ha (bs (a:=c) hc (bs (a:=false) ?_ ?_)),fun h=>bL⟩
   ·rw[hc0];rfl
   ·rw[hc0];rfl
  ·refine⟨f,bs ha (bs (a:=c) hc (bs (a:=f) ?_ ?_)),fun h=>?_⟩
   ·rw[hc0];exact hf
   ·rw[hc0];rfl
   ·subst h
    have:c=0:=(by simpa using hc0);subst this;have ht:=aBS hb (fun e h=>(he e h).2.2.2) hf;exact⟨hc,fun e h=>⟨(he e h).1,(he e h).2.1,(he e h).2.2.1,(he e h).2.2.2,ht e h⟩⟩
theorem aEi {n:Nat}(hn:2^21<n)(s:aJ)(l:List Event)(q:Query)(hs:oz s n)(hl:l.length<n)(hb:l.length<2^62)(he:∀e∈l,adt e n)(hq:TD q n):XZ n (s,(l,q))=some true:=by
 have ad1:FW n ()=some true:=by unfold FW;exact aD3
 obtain⟨a,a1,a2⟩:=aEh (n:=n) ah hs hl hb he;obtain⟨f,f1,f2⟩:=aCv hq;rw[aBA,Pred.lH];refine bs a1 ?_;cases a
 ·exact bs (a:=false) rfl (bs ad1 rfl)
 ·refine bs (a:=f) f1 ?_
  cases f
  ·exact bs ad1 rfl
  ·obtain⟨hc,hev⟩:=a2 rfl
   have hv:=f2 rfl;have hm:=aCw hs ah hc;obtain⟨w,w1,w2⟩:=aCL (n:=n) ah hs hl hb hev;have hB:mO n s w.B:=w2 (by unfold adz;rw[amL];exact bs hc rfl);obtain⟨H,e,g1,g2,g3⟩:=aEe (n:=n) ah hs hB hm hq hv;obtain⟨r,r1,r2⟩:=an7 (n:=n) (s:=s) (q:=q) ah hs hq hv;obtain⟨D,d1,d2,d3,d4⟩:=aol (n:=n) (b:=w.B) (a:=q.At) hB.rows ah;refine bs w1 (bs g1 (bs g2 (bs ad1 (bs r1 (bs r2 ?_)))));refine kK aD (bs d1 (bs d2 (bs (aEf (n:=n) (s:=s) (fun x hx=>?_) ah (dJ d3 hB.rows)) ?_)))
   ·obtain⟨r,hr,rfl⟩:=d4 x hx
    exact hB.row r hr
   ·refine kK (c:=e==e) aD (bs (a:=true) (aEg (l:=H) (n:=n) ah ah) rfl)
end Sh
end
