import Derived.ControlIn
import Derived.RangeFuncLeaves
import Derived.RangeFuncRecord
import Derived.Scope
import Derived.Test.YthadiihdjhakdaaGreatF2902
set_option linter.all false
section
namespace aY
open Go Go.RowKit
section
variable {E:Env}{B0:Nat}{σ:au}{K:aV}{w:World}{new:Nat->Prop}{T:Nat->Nat}
def wm (E:Env)(B0:Nat)(new:Nat->Prop)(σ:au)(K:aV)(w:World)(s:Sem Next)(v:V)(σ':au):Prop:=
 ∃nx c w' K',s.run E.P w= .ok nx w'/\(nx= .value c\/(nx= .skip/\c=undef))/\Rel K' σ'.top w' v c/\Step E B0 new σ K w σ' K' w'
theorem wm.uW {s:Sem Value}{v:V}{σ':au}(h:Done E B0 new σ K w s v σ'):wm E B0 new σ K w (do pure (.value (<-s))) v σ':=by obtain⟨c,w',K',h1,h2,h3⟩:=h;exact⟨.value c,c,w',K',by simp[h1],.inl rfl,h2,h3⟩
theorem wm.j3 (h:bA E B0 σ K w){s:Sem Value}{v:V}(hs:∃c,s.run E.P w= .ok c w/\Rel K σ.top w v c):wm E B0 new σ K w (do pure (.value (<-s))) v σ:=
 .uW (.j3 h hs)
theorem wm.Yd {s:Sem Unit}{σ':au}{K':aV}{w':World}(h:s.run E.P w= .ok () w')(hs:Step E B0 new σ K w σ' K' w'):wm E B0 new σ K w (do s;pure .skip) aK σ':=
 ⟨.skip,undef,w',K',EA,.inr ⟨rfl,rfl⟩,.undef _ _ _,hs⟩
theorem H7 {fr:Fr}{a:Act}(h:bA E B0 σ K w)(hf:kF K σ.top w fr a.tmps)(xs:Array Operand):(xs.toList.map (fr.ev E)).length=(xs.map a.eval).size/\∀i,i< (xs.toList.map (fr.ev E)).length->Rel K σ.top w ((xs.toList.map (fr.ev E)).getD i aK) ((xs.map a.eval).getD i undef):=by
 refine⟨aC,fun i hi=>?_⟩;have hi':i<xs.size:=jI
 have e1:(xs.toList.map (fr.ev E)).getD i aK=fr.ev E xs[i]:=Lg
 have e2:(xs.map a.eval).getD i undef=a.eval xs[i]:=by simp[Array.getD,hi']
 rw[e1,e2];exact xR h hf _
theorem Ye {v:V}{c:Value}{b:Bool}(hr:Rel K T w v c)(h:xJ v=some b):c= .bool b:=by
 cases v<;>simp only[xJ,reduceCtorEq,iE] at h;subst h;cases hr;rfl
theorem aeu (h:bA E B0 σ K w)(hB:B0<=w.heap.size){st:Nat}(hst:¬K.A st)(loc:Loc)(t:TypeId){x:V}{cx:Value}(hx:Rel K σ.top w x cx)(hraw:fV x=true):
 Done E B0 (· =st) σ K w (do pure (.pointer (some (<-newVar t cx)))) (.ref loc st 0) (σ.setObj loc st (.cells x.cells)):=by
 obtain⟨h1,h2⟩:=C8 hx hraw;have hstep:=Step.LK h hB hst loc (.cells x.cells) (.cells cx.cells t) cx.cells.size (fun K' e' _ hb' hs'=>
  ⟨fun h0=>by rw[hs',<-h1,h0];rfl,fun _=>⟨Lh,_,t,Rm,hs'.symm,by rw[h1];exact RS _,fun i hi=>(h2 i hi).ext e'⟩⟩)
 refine⟨.pointer (some (at_ w.heap.size 0)),_,_,by simp[newVar,newRow],?_,hstep⟩;have key:Rel (K.lK st w.heap.size cx.cells.size loc) (σ.setObj loc st (.cells x.cells)).top (w.alloc (.cells cx.cells t)) (.ref loc st 0) (.pointer (some (at_ ((K.lK st w.heap.size cx.cells.size loc).blk st) 0))):=.ref loc st 0 (Or.inr rfl);have hblk:(K.lK st w.heap.size cx.cells.size loc).blk st=w.heap.size:=upd_same _ _ _;rw[hblk] at key;exact key
theorem amN (h:bA E B0 σ K w)(hB:B0<=w.heap.size){st:Nat}(t:TypeId){x:V}{cx:Value}(hx:Rel K σ.top w x cx)(hraw:fV x=true):
 Done E B0 (· =st) σ K w (do pure (.pointer (some (<-newVar t cx)))) (.aI x.cells 0) σ:=by
 obtain⟨h1,h2⟩:=C8 hx hraw;have hst:=Step.adL (new:=(· =st)) h hB cx.cells t (0,0);refine⟨.pointer (some (at_ w.heap.size 0)),_,_,by simp[newVar,newRow],?_,hst⟩;have hcell:∀j,j<cx.cells.size->(w.alloc (.cells cx.cells t)).cell? (at_ w.heap.size (0+j))=some (cx.cells.getD j undef):=fun j hj=>by rw[nS];exact LP hj
 exact .aI x.cells 0 w.heap.size 0 (fun j=>cx.cells.getD j undef) (fun j hj=>⟨hcell j ah,.inr ⟨rfl,ah⟩⟩) (fun j hj=>(h2 j hj).ext hst.ext)
theorem amO (h:bA E B0 σ K w)(hB:B0<=w.heap.size){st:Nat}(hst:¬K.A st)(loc:Loc)(t:TypeId):
 Done E B0 (· =st) σ K w (Instr.makeMap t none) (.dJ loc st) (σ.setObj loc st (.map [] [])):=by
 have hstep:=Step.LK h hB hst loc (.map [] []) (.map #[] 0) 0 (fun K' e' _ hb' hs'=>
  ⟨Lh, #[],0,Rm,dH.empty,rfl,rfl,fun i hi=>absurd hi (gK i),fun i hi=>absurd hi (gK i)⟩)
 refine⟨.map (some w.heap.size),_,_,by simp[Instr.makeMap],?_,hstep⟩;have key:Rel (K.lK st w.heap.size 0 loc) (σ.setObj loc st (.map [] [])).top (w.alloc (.map #[] 0)) (.dJ loc st) (.map (some ((K.lK st w.heap.size 0 loc).blk st))):=.dJ loc st (Or.inr rfl);have hblk:(K.lK st w.heap.size 0 loc).blk st=w.heap.size:=upd_same _ _ _;rw[hblk] at key;exact key
def aV.freeze (K:aV)(b n:Nat):aV:={K with I:=fun b' o=>K.I b' o\/(b'=b/\o<n),ρ:=upd K.ρ b none}
theorem aev (K:aV)(T:Nat->Nat)(w:World)(b n:Nat):Ext K T w (K.freeze b n) T w:=
 ⟨fun _ h=>⟨h,rfl,rfl,rfl⟩,fun _ _=>.inl ⟨rfl,rfl,rfl,rfl⟩,fun _ _ h=>⟨.inl h,rfl⟩,fun _ h=>⟨h,rfl⟩⟩
theorem Step.freeze (h:bA E B0 σ K w){loc:Loc}{s:Nat}{cs:List V}(hs:σ.obj loc=some (s,.cells cs))(hne:cs≠[]){n:Nat}(hn:∀i,i<n->∃v,w.cell? (at_ (K.blk s) i)=some v):
 Step E B0 new σ K w (σ.eG loc) (K.freeze (K.blk s) n) w:=by
 obtain⟨a1,a2,a3⟩:=h.obj loc s _ hs;obtain⟨b1,_⟩:=a2.2 hne;have hρ:K.ρ (K.blk s)=some (.obj loc):=a3 (by cases cs with|nil=>exact absurd rfl hne|cons _ _=>trivial);have e:=aev K σ.top w (K.blk s) n;have hne':∀b r,K.ρ b=some r->r≠ .obj loc->b≠K.blk s:=fun b r h1 h2 e=>by rw[e,hρ] at h1;exact h2 (lX h1).symm
 refine⟨⟨fun loc' s' ob hs'=>?_,fun s' hA hlt=>?_,fun b o hi=>?_,fun b hi=>?_,fun l r hl=>?_,fun g cs hg=>(h.glob g cs hg).ext e,fun b r hr=>?_,h.D⟩,e,.refl _ _,fun _ h=>h,fun _ h=>.inl h,fun b o hi=>?_,fun _ h=>.inl h⟩
 ·by_cases hl:loc'=loc
  ·subst hl;simp[au.eG,upd_same] at hs'
  ·simp only[au.eG,upd_ne _ _ hl] at hs'
   obtain⟨g1,g2,g3⟩:=h.obj loc' s' ob hs';refine⟨g1,g2.ext e g1 (fun _=>rfl),fun hr=>?_⟩;have h1:=g3 hr;have h2:K.blk s'≠K.blk s:=hne' _ _ h1 (fun e=>hl (by cases e;rfl));show upd K.ρ (K.blk s) none (K.blk s')=_;rw[upd_ne _ _ h2];exact h1
 ·obtain⟨g1,g2,g3⟩:=h.own s' hA hlt
  have h2:K.ob s'≠K.blk s:=hne' _ _ g2 (fun e=>by cases e);refine⟨g1,?_,fun o h3 h4=>?_⟩
  ·show upd K.ρ (K.blk s) none (K.ob s')=_
   rw[upd_ne _ _ h2];exact g2
  ·obtain⟨c1,c2,c3⟩:=g3 o h3 h4
   exact⟨fun hi=>hi.elim c1 (fun hi=>h2 hi.1),c2,c3⟩
 ·have hk:∀loc',(K.freeze (K.blk s) n).ρ b≠some (.obj loc')\/K.ρ b=some (.obj loc'):=fun loc'=>by
   by_cases hb:b=K.blk s
   ·left;show upd K.ρ (K.blk s) none b≠_
    rw[hb,upd_same];simp
   ·by_cases hq:K.ρ b=some (.obj loc')
    ·exact .inr hq
    ·left;show upd K.ρ (K.blk s) none b≠_
     rw[upd_ne _ _ hb];exact hq
  rcases hi with hi| ⟨rfl,hi⟩
  ·obtain⟨g1,g2⟩:=h.I b o hi
   exact⟨g1,fun loc'=>(hk loc').resolve_right (g2 loc')⟩
  ·refine⟨hn o hi,fun loc'=>?_⟩
   show upd K.ρ (K.blk s) none (K.blk s)≠_;rw[upd_same];simp
 ·obtain⟨g1,g2⟩:=h.IM b hi
  refine⟨g1,fun loc'=>?_⟩;show upd K.ρ (K.blk s) none b≠_;by_cases hb:b=K.blk s
  ·rw[hb,upd_same];simp
  ·rw[upd_ne _ _ hb];exact g2 loc'
 ·obtain⟨g1,g2⟩:=h.loop l r hl
  have h2:K.lp l≠K.blk s:=hne' _ _ g2.2.1 (fun e=>by cases e);exact⟨g1,g2.ext e g1 rfl (upd_ne _ _ h2)⟩
 ·have hr':upd K.ρ (K.blk s) none b=some r:=hr
  by_cases hb:b=K.blk s
  ·rw[hb,upd_same] at hr';cases hr'
  ·rw[upd_ne _ _ hb] at hr';exact h.rb b r hr'
 ·rcases hi with hi| ⟨rfl,_⟩
  ·exact .inl hi
  ·exact .inr b1
theorem amP (h:bA E B0 σ K w){x v:V}{c:Value}{σ':au}(hr:Rel K σ.top w x c)(hv:yS σ x=some (v,σ')):∃K',Rel K' σ'.top w v c/\Step E B0 new σ K w σ' K' w:=by
 unfold yS at hv;split at hv
 ·rename_i loc s off len cap bS ag
  simp only[iR] at hv;obtain⟨cs,hcs,hv⟩:=hv;split at hv
  ·rename_i hc
   obtain⟨hlen,hag⟩:=hc;simp only[iE,aP] at hv;obtain⟨rfl,rfl⟩:=hv;have L8:ag=false->bS=1:=fun e=>by simp[e] at hag;exact hag.1
   have L9:ag=false->dD (((cs.drop off).take (len*bS)).map eD)=true:=fun e=>by simp only[e,Bool.false_or,iP] at hag;exact hag.2
   cases hr with
   |l6 _ _ _ _ hA=>exact⟨K,.fu .sh none (fun _=>rfl) trivial,.eG h loc⟩
   |aJ _ _ _ _ _ _ _ eH hA hcp hle hsz=>
    by_cases hne:cs=[]
    ·subst hne
     have h0:len*bS=0:=(by simp at hlen;omega);refine⟨K,?_,.eG h loc⟩;exact LX (w:=w) (val:=fun _=>undef) L8 (by rw[h0];exact kN _) L9 (fun j hj=>ah) (fun j hj=>ah) ah trivial
    ·obtain⟨g1,_,_⟩:=h.yY hcs
     obtain⟨a1,a2,a3⟩:=h.obj _ _ _ g1;obtain⟨b1,vals,t,b2,b3,b4,b5⟩:=a2.2 hne;have e6:∀i,i<vals.size->w.cell? (at_ (K.blk s) i)=some (vals.getD i undef):=fun i hi=>by simp[World.cell?,b2,Array.getD,hi]
     refine⟨K.freeze (K.blk s) vals.size,?_,.freeze h g1 hne (fun i hi=>⟨_,e6 i hi⟩)⟩;have hl':((cs.drop off).take (len*bS)).length=len*bS:=jR;refine LX (w:=w) (val:=fun i=>vals.getD (off+i) undef) L8 jR L9 (fun j hj=>⟨e6 _ ah,.inr ⟨rfl,ah⟩⟩) (fun j hj=>?_) ah trivial;have hj':j< ((cs.drop off).take (len*bS)).length:=ah;have e1:(((cs.drop off).take (len*bS)).map eD).getD j aK=eD (cs.getD (off+j) aK):=(by rw[<-yZ,<-xS (cs.drop off) hj,jZ (by simpa using hj'),jZ hj'];simp);rw[e1];exact(H6 (b5 _ ah)).ext (aev _ _ _ _ _)
  ·simp at hv
 ·rename_i cc l
  simp only[iE,aP] at hv;obtain⟨rfl,rfl⟩:=hv;exact⟨K,H6 hr,.refl h⟩
 ·simp only[iE,aP] at hv
  obtain⟨rfl,rfl⟩:=hv;exact⟨K,hr,.refl h⟩
theorem amQ {t xt:TypeId}{ok:Bool}{x v:V}{cx:Value}(hx:Rel K σ.top w x cx)(hv:XF E.P t ok x=some v):
 ∃c,(Instr.typeAssert cx xt t ok).run E.P w= .ok c w/\Rel K σ.top w v c:=by
 unfold XF at hv;have two:∀{a b:V}{ca cb:Value},Rel K σ.top w a ca->Rel K σ.top w b cb->Rel K σ.top w (.bq [a,b]) (.tuple #[ca,cb]):=fun {a b ca cb} ha hb=>.bq _ _ rfl (fun i hi=>by
  match i,hi with
  |0,_=>exact ha|1,_=>exact hb)
 split at hv
 ·cases hv
 ·cases hv
 ·rename_i d hni hd
  have hu:(underlying t).run E.P w= .ok d w:=run_underlying hd w;split at hv
  ·rename_i u y
   cases hx with
   |iface _ _ c hr=>
   split at hv
   ·rename_i hut
    subst hut;simp only[iE] at hv;cases ok with
    |true=>simp only[if_true] at hv;subst hv;refine⟨_,?_,two hr (.bool true)⟩;cases d<;>first| (exact absurd rfl (hni _))|simp[Instr.typeAssert,hu]
    |false=>simp only[dO,if_false] at hv;subst hv;refine⟨_,?_,hr⟩;cases d<;>first| (exact absurd rfl (hni _))|simp[Instr.typeAssert,hu]
   ·rename_i hut
    split at hv
    ·rename_i hok
     subst hok;simp only[aZ] at hv;obtain⟨z,hz,rfl⟩:=hv;obtain⟨c,h1,h2⟩:=C9 (w:=w) hz;refine⟨_,?_,two (h2 _ _) (.bool false)⟩;cases d<;>first| (exact absurd rfl (hni _))|simp[Instr.typeAssert,hu,hut,h1]
    ·cases hv
  ·cases hx
   split at hv
   ·rename_i hok
    subst hok;simp only[aZ] at hv;obtain⟨z,hz,rfl⟩:=hv;obtain⟨c,h1,h2⟩:=C9 (w:=w) hz;refine⟨_,?_,two (h2 _ _) (.bool false)⟩;cases d<;>first| (exact absurd rfl (hni _))|simp[Instr.typeAssert,hu,h1]
   ·cases hv
  ·cases hv
theorem amR (h:bA E B0 σ K w)(hB:B0<=w.heap.size){fr:Fr}{a:Act}(hf:kF K σ.top w fr a.tmps){st:Nat}(hst:¬K.A st){o:Oper}{v:V}{σ':au}(hv:eP E fr σ st o=some (v,σ')):
 wm E B0 (· =st) σ K w (execOp a.eval o) v σ':=by
 have ev:=fun x=>xR h hf x;unfold eP at hv;unfold execOp;split at hv
 ·rename_i x hop
  split at hv
  ·obtain⟨K',r1,r2⟩:=amP (new:=(· =st)) h (ev x) hv
   simp only[hop];exact⟨.value (a.eval x),a.eval x,w,K',rfl,.inl rfl,r1,r2⟩
  simp only[iE,aP] at hv;obtain⟨rfl,rfl⟩:=hv;simp only[hop];exact⟨.value (a.eval x),a.eval x,w,K,rfl,.inl rfl,ev x,.refl h⟩
 ·rename_i x hop
  simp only[iE,aP] at hv;obtain⟨rfl,rfl⟩:=hv;simp only[hop];exact⟨.value (a.eval x),a.eval x,w,K,rfl,.inl rfl,ev x,.refl h⟩
 ·rename_i c x y hop
  simp only[aZ,aP] at hv;obtain⟨b,hb,rfl,rfl⟩:=hv;simp only[hop];have hc:=Ye (ev c) hb;refine⟨.value (if b then a.eval x else a.eval y),_,w,K,by simp[asBool,hc],.inl rfl,?_,.refl h⟩;cases b
  ·exact ev y
  ·exact ev x
 ·rename_i t hop
  simp only[iR] at hv;obtain⟨loc,_,z,hz,hv⟩:=hv;split at hv
  ·simp only[iE,aP] at hv
   obtain⟨rfl,rfl⟩:=hv;simp only[hop];obtain⟨cz,hz1,hz2⟩:=C9 w hz;obtain⟨c,w',K',r1,r2,r3⟩:=aeu h hB hst loc t (hz2 K σ.top) (Hu hz);refine .uW ⟨c,w',K',?_,r2,r3⟩;simp only[Instr.alloc,Sem.run_bind,hz1,Result.andThen_ok];exact r1
  ·simp at hv
 ·rename_i t x hop
  split at hv
  ·split at hv
   ·rename_i hc
    simp only[iE,aP] at hv;obtain⟨rfl,rfl⟩:=hv;simp only[hop];exact .uW (amN h hB t (R3 (ev x)) (amk hc.2))
   ·simp at hv
  simp only[iR] at hv;obtain⟨loc,_,hv⟩:=hv;split at hv
  ·rename_i hc
   simp only[iE,aP] at hv;obtain⟨rfl,rfl⟩:=hv;simp only[hop];exact .uW (aeu h hB hst loc t (ev x) hc.2)
  ·simp at hv
 ·rename_i t parts hop
  simp only[iR,aZ,aP] at hv;obtain⟨pl,hpl,z,hz,cs,hcs,rfl,rfl⟩:=hv;simp only[hop];refine .j3 h (amj hpl hz ?_ (Hu hz) hcs);rw[Array.toList_map];exact RY h hf _
 ·rename_i t len parts hop
  split at hv
  ·simp only[hop]
   refine .uW (amI h hB hst ?_ hv);rw[Array.toList_map];exact RY h hf _
  ·simp only[aZ,aP] at hv
   obtain⟨v',hv',rfl,rfl⟩:=hv;simp only[hop];refine .uW (amm h hB ?_ hv');rw[Array.toList_map];exact RY h hf _
 ·rename_i t x hop
  simp only[hop];have hx:=ev x;generalize fr.ev E x=xv at hv hx;cases xv with
  |ref loc s off=>simp only[iR,aZ,aP] at hv;obtain⟨cs,h1,v',h2,rfl,rfl⟩:=hv;exact .j3 h (X3 h hx (by simp[h1,h2]))
  |aI cs off=>simp only[aZ,aP] at hv;obtain⟨v',h2,rfl,rfl⟩:=hv;exact .j3 h (X3 h hx h2)
  |_=>simp at hv
 ·rename_i t p x hop
  simp only[hop];have hp:=ev p;have hx:=ev x;generalize fr.ev E p=pv at hv hp;cases pv with
  |ref loc s off=>
   simp only[iR] at hv;obtain⟨cs,hcs,hv⟩:=hv;split at hv
   ·rename_i hc
    simp only[iE,aP] at hv;obtain⟨rfl,rfl⟩:=hv;obtain⟨w',r1,r2⟩:=amd (new:=(· =st)) h hB hp hx hcs hc.1 hc.2.1 hc.2.2;exact .Yd r1 r2
   ·simp at hv
  |_=>simp at hv
 ·rename_i x hop
  simp only[hop];have hx:=ev x;generalize fr.ev E x=xv at hv hx;cases xv with
  |ref loc s off=>simp only[iE,aP] at hv;obtain⟨rfl,rfl⟩:=hv;generalize a.eval x=cx at hx;cases hx with|ref _ _ _ hA=>exact⟨_,_,w,K,rfl,.inl rfl,.ref loc s off hA,.refl h⟩
  |aI cs off=>simp only[iE,aP] at hv;obtain⟨rfl,rfl⟩:=hv;generalize a.eval x=cx at hx;have hx':=hx;cases hx with|aI _ _ b o val h1 h2=>exact⟨_,_,w,K,rfl,.inl rfl,hx',.refl h⟩
  |fn f g l=>
   cases f with
   |func f=>simp only[iE,aP] at hv;obtain⟨rfl,rfl⟩:=hv;generalize a.eval x=cx at hx;have hx':=hx;cases hx with|fn _ _ _ kE bv h1 h2 h3 h4=>exact⟨_,_,w,K,rfl,.inl rfl,hx',.refl h⟩
   |_=>simp at hv
  |_=>simp at hv
 ·rename_i op t x y _ hop
  simp only[aZ,aP] at hv;obtain⟨v',hv',rfl,rfl⟩:=hv;simp only[hop];exact .j3 h (al6 w x y (ev x) (ev y) hv')
 ·rename_i op t x hop
  simp only[aZ,aP] at hv;obtain⟨v',hv',rfl,rfl⟩:=hv;simp only[hop];exact .j3 h (al7 w (ev x) hv')
 ·rename_i s d x hop
  simp only[aZ,aP] at hv;obtain⟨v',hv',rfl,rfl⟩:=hv;simp only[hop];exact .uW (ama h hB (ev x) hv')
 ·rename_i t x hop
  simp only[iR] at hv;obtain⟨⟨n,e⟩,hn,hv⟩:=hv;have hu:=adS hn;simp only[hop];have hx:=ev x;generalize fr.ev E x=xv at hv hx;generalize a.eval x=cx at hx;cases xv with
  |aJ loc s off len cap bS ag=>
   simp only at hv;split at hv
   ·rename_i hle
    simp only[iE,aP] at hv;obtain⟨rfl,rfl⟩:=hv;cases hx with
    |l6=>omega|aJ _ _ _ _ _ _ _ eH hA hcc hlc hsz=>have:¬(len<n):=ah;exact .j3 h ⟨_,by simp[Instr.arrayAt,run_underlying hu,this],.ref loc s off hA⟩
   ·simp at hv
  |ay c l=>
   simp only at hv;split at hv
   ·rename_i hc
    obtain⟨c1,c2,c3⟩:=hc;simp only[iE,aP] at hv;obtain⟨rfl,rfl⟩:=hv;cases hx with
    |fu=>simp at c2;omega|ay _ _ b o m cap val hle hn hcell hrel hcap=>
     have hlt:¬(l.length<n):=ah;have hone:∀i,i<l.length->(l.getD i aK).cells=[l.getD i aK]:=fun i hi=>by simp only[dD,kM] at c3;have:=c3 _ (lY hi);rw[jZ hi];revert this;cases l[i]<;>simp[oneCell,V.cells]
     have hm:m=1:=(by have h0:0<l.length:=ah;rw[<-hn 0 h0,hone 0 h0];rfl);subst hm;refine .j3 h ⟨.pointer (some (at_ b (o+0))),by simp[Instr.arrayAt,run_underlying hu,hlt],.aI (l.take n) 0 b o (fun j=>val j 0) (fun j hj=>?_) (fun j hj=>?_)⟩
     ·have hj':j<l.length:=by rw[oz] at hj;omega
      have:=hcell j 0 hj' ah;simpa using this
     ·have hj':j<l.length:=by rw[oz] at hj;omega
      have hjn:j<n:=(by rw[oz] at hj;omega);have:=hrel j 0 hj' ah;rw[hone j hj'] at this;have e:(l.take n).getD j aK=l.getD j aK:=(by rw[yP,yP,List.getElem?_take_of_lt hjn]);rw[e];simpa using this
   ·simp at hv
  |_=>simp at hv
 ·rename_i t x hop
  simp only[hop];split at hv
  ·simp at hv
  ·rename_i d hu hd
   simp only[iE,aP] at hv;obtain⟨rfl,rfl⟩:=hv;refine .j3 h ⟨.iface t (a.eval x),?_,.iface t _ _ (ev x)⟩;simp only[Instr.makeInterface,Sem.run_bind,run_underlying hd,Result.andThen_ok];rfl
  ·simp at hv
 ·rename_i f p q hop
  simp only[iE,aP] at hv;obtain⟨rfl,rfl⟩:=hv;simp only[hop];obtain⟨h1,h2⟩:=H7 h hf p;obtain⟨h3,h4⟩:=H7 h hf q;exact .j3 h ⟨_,rfl,.fn f _ _ _ _ h1 h3 h2 h4⟩
 ·rename_i t hop
  simp only[aZ,aP] at hv;obtain⟨loc,_,rfl,rfl⟩:=hv;simp only[hop];exact .uW (amO h hB hst loc t)
 ·rename_i t l c hop
  simp only[hop];exact .uW (amH h hB hst (ev l) (ev c) hv)
 ·rename_i t x lo hi mx hop
  simp only[aZ,aP] at hv;obtain⟨v',hv',rfl,rfl⟩:=hv;simp only[hop];have opt:∀(p:Option Operand) v,p9 E fr p=some v->∃c,p.map a.eval=some c/\Rel K σ.top w v c:=by
   intro p v hp;cases p with
   |none=>simp[p9] at hp|some p=>simp only[p9,iE] at hp;subst hp;exact⟨_,rfl,ev p⟩
  have Yf:∀(p:Option Operand),p9 E fr p=none->p.map a.eval=none:=by
   intro p hp;cases p with
   |none=>rfl|some p=>simp[p9] at hp
  exact .j3 h (al8 w rfl h (ev x) (opt lo) (Yf lo) (opt hi) (Yf hi) (opt mx) (Yf mx) hv')
 ·rename_i t x f hop
  simp only[iR] at hv;obtain⟨⟨o',u⟩,hfi,hv⟩:=hv;simp only[hop];have hx:=ev x;generalize fr.ev E x=xv at hv hx;cases xv with
  |ref loc s off=>simp only[iE,aP] at hv;obtain⟨rfl,rfl⟩:=hv;exact .j3 h (ad1 hx hfi rfl)
  |aI cs off=>simp only[iE,aP] at hv;obtain⟨rfl,rfl⟩:=hv;exact .j3 h (ad1 hx hfi rfl)
  |_=>simp at hv
 ·rename_i t x f hop
  simp only[iR] at hv;obtain⟨⟨o',u⟩,hfi,hv⟩:=hv;simp only[hop];have hx:=ev x;generalize fr.ev E x=xv at hv hx;generalize a.eval x=cx at hx;cases xv with
  |agg cs=>
   simp only[aZ,aP] at hv;obtain⟨v',hv',rfl,rfl⟩:=hv;cases hx with|agg _ vs hl hr=>
   obtain⟨fs,g,n,hu,hg,rfl,rfl,hn⟩:=adU hfi;obtain⟨c,r1,r2⟩:=Hw (P:=E.P) (w:=w) hl hr hv';exact .j3 h ⟨c,by simp[Instr.field,run_underlying hu,hg,asAgg,r1],r2⟩
  |_=>simp at hv
 ·rename_i t x i hop
  simp only[aZ,aP] at hv;obtain⟨v',hv',rfl,rfl⟩:=hv;simp only[hop];exact .j3 h (amb (ev x) (ev i) hv')
 ·rename_i t x i hop
  simp only[aZ,aP] at hv;obtain⟨v',hv',rfl,rfl⟩:=hv;simp only[hop];exact .j3 h (amc (ev x) (ev i) hv')
 ·rename_i t x i ok hop
  simp only[aZ,aP] at hv;obtain⟨v',hv',rfl,rfl⟩:=hv;simp only[hop];exact .j3 h (amg h (ev x) (ev i) hv')
 ·rename_i t m k x hop
  simp only[aZ,aP] at hv;obtain⟨σ1,hv',rfl,rfl⟩:=hv;simp only[hop];obtain⟨w',r1,r2,_⟩:=ad6 (new:=(· =st)) h hB (ev m) (ev k) (ev x) hv';exact .Yd r1 r2
 ·rename_i t m k x hop
  simp only[aZ,aP] at hv;obtain⟨σ1,hv',rfl,rfl⟩:=hv;simp only[hop];obtain⟨w',r1,r2,_⟩:=ad6 (new:=(· =st)) h hB (ev m) (ev k) (ev x) hv';exact .Yd r1 r2
 ·rename_i x i hop
  simp only[hop];have hx:=ev x;generalize fr.ev E x=xv at hv hx;generalize a.eval x=cx at hx;cases xv with
  |bq vs=>
   simp only[aZ,aP] at hv;obtain⟨v',hv',rfl,rfl⟩:=hv;cases hx with|bq _ aew hl hr=>
   have hi:i<vs.length:=(oC.1 hv').1;have hi':i<aew.size:=ah
   refine .j3 h ⟨aew[i],by simp[Instr.extract,hi'],?_⟩;have:=hr i hi;rw[jZ hi,Ht hi'] at this;have e:vs[i]=v':=(oC.1 hv').2;rw[<-e];exact this
  |_=>simp at hv
 ·rename_i x xt t ok hop
  simp only[aZ,aP] at hv;obtain⟨v',hv',rfl,rfl⟩:=hv;simp only[hop];exact .j3 h (amQ (ev x) hv')
 ·simp at hv
end
section
variable {E:Env}{B0:Nat}{σ:au}{K:aV}{w:World}{new:Nat->Prop}{T:Nat->Nat}
def RelA (K:aV)(T:Nat->Nat)(w:World)(l:List V)(cl:Array Value):Prop:=l.length=cl.size/\∀i,i<l.length->Rel K T w (l.getD i aK) (cl.getD i undef)
theorem Yg {x:V}{cl:Array Value}(h:RelA K T w [x] cl):∃c,cl= #[c]/\Rel K T w x c:=by
 obtain⟨h1,h2⟩:=h;have hs:cl.size=1:=by simpa using h1.symm
 refine⟨cl[0],?_,?_⟩
 ·apply Array.ext
  ·simpa using hs
  ·intro i h1 h2
   obtain rfl:i=0:=ah
   rfl
 ·have:=h2 0 aC
  rwa[Ht ah] at this
theorem aex {x y:V}{cl:Array Value}(h:RelA K T w [x,y] cl):∃c d,cl= #[c,d]/\Rel K T w x c/\Rel K T w y d:=by
 obtain⟨h1,h2⟩:=h;have hs:cl.size=2:=by simpa using h1.symm
 refine⟨cl[0],cl[1],?_,?_,?_⟩
 ·apply Array.ext
  ·simpa using hs
  ·intro i h1 h2
   have:i=0\/i=1:=ah
   rcases this with rfl|rfl<;>rfl
 ·have:=h2 0 aC
  rwa[Ht ah] at this
 ·have:=h2 1 aC
  rwa[Ht ah] at this
theorem aey {x:V}{l:List V}{cl:Array Value}(h:RelA K T w (x::l) cl):∃c cs,cl.toList=c::cs/\Rel K T w x c/\l.length=cs.length/\∀i,i<l.length->Rel K T w (l.getD i aK) (cs.getD i undef):=by
 obtain⟨h1,h2⟩:=h;cases hc:cl.toList with
 |nil=>
  have:cl.size=0:=by rw[<-Array.length_toList,hc];rfl
  simp[this] at h1
 |cons c cs=>
  have hg:∀i,cl.getD i undef=(c::cs).getD i undef:=fun i=>by rw[<-hc,RX]
  have hl:cl.size=cs.length+1:=by rw[<-Array.length_toList,hc];rfl
  refine⟨c,cs,rfl,?_,by simp at h1;omega,fun i hi=>?_⟩
  ·have:=h2 0 aC
   rw[hg] at this;simpa using this
  ·have:=h2 (i+1) jR
   rw[hg] at this;simpa using this
theorem amS (h:bA E B0 σ K w)(hB:B0<=w.heap.size){aj:Bool}{loc:Option Loc}{st:Nat}(hst:¬K.A st){b:Builtin}{tys:Array TypeId}{ty:TypeId}{consts:Array Bool}{args:List V}{bV:Array Value}{v:V}{σ':au}(hr:RelA K σ.top w args bV)(hv:qg E aj loc σ st b tys args=some (v,σ')):wm E B0 (· =st) σ K w (builtin b tys ty consts bV) v σ':=by
 unfold qg at hv;split at hv
 ·rename_i x
  simp only[iR,aZ,aP] at hv;obtain⟨t,ht,n,hn,rfl,rfl⟩:=hv;obtain⟨c,rfl,hx⟩:=Yg hr;exact .j3 h ⟨_,amL h ht hx hn,.int .i64 n⟩
 ·rename_i x
  simp only[iR] at hv;obtain⟨t,ht,e,he,hv⟩:=hv;obtain⟨c,rfl,hx⟩:=Yg hr;obtain⟨rfl,r⟩:=amM (ty:=ty) ht (LU he) hv hx;exact .j3 h r
 ·rename_i x y
  simp only[iR] at hv;obtain⟨t,ht,u,⟨tx,htx,hu⟩,hv⟩:=hv;obtain⟨c,d,rfl,hx,hy⟩:=aex hr;have he:Builtin.append_ tys ty #[c,d]=Builtin.append_ #[t,tx] ty #[c,d]:=by simp[Builtin.append_,ht,htx]
  show wm E B0 _ σ K w (do pure (.value (<-Builtin.append_ tys ty #[c,d]))) v σ';rw[he];split at hv
  ·rename_i k
   exact .uW (Yc h hB hst hx hy (fun _=>⟨k,hu⟩) (fun hf=>by cases hf) hv)
  ·rename_i e
   exact .uW (Yc h hB hst hx hy (fun hf=>by cases hf) (fun _=>.inl ⟨e,hu⟩) hv)
  ·exact .uW (Yc h hB hst hx hy (fun hf=>by cases hf) (fun _=>.inr hu) hv)
  ·simp at hv
 ·rename_i x y
  simp only[iR] at hv;obtain⟨t,ht,hv⟩:=hv;obtain⟨c,d,rfl,hx,hy⟩:=aex hr;have he:Builtin.copy_ tys ty #[c,d]=Builtin.copy_ #[t,t] ty #[c,d]:=by simp[Builtin.copy_,ht]
  show wm E B0 _ σ K w (do pure (.value (<-Builtin.copy_ tys ty #[c,d]))) v σ';rw[he];exact .uW (amJ h hB hx hy hv)
 ·rename_i x
  simp only[iR] at hv;obtain⟨t,ht,hv⟩:=hv;obtain⟨c,rfl,hx⟩:=Yg hr;have he:Builtin.clear_ tys ty #[c]=Builtin.clear_ #[t] ty #[c]:=by simp[Builtin.clear_,ht]
  show wm E B0 _ σ K w (do pure (.value (<-Builtin.clear_ tys ty #[c]))) v σ';rw[he];exact .uW (amK h hB hx hv)
 ·rename_i x l
  simp only[aZ,aP] at hv;obtain⟨v',hv',rfl,rfl⟩:=hv;obtain⟨c,cs,hc,hx,hl,hrel⟩:=aey hr;obtain⟨c',r1,r2⟩:=aer l cs x v' c hl hrel hx hv';have he:Builtin.min_ tys ty bV=cs.foldlM Builtin.min2 c:=by unfold Builtin.min_;rw[hc]
  exact .j3 (s:=Builtin.min_ tys ty bV) h ⟨c',by rw[he];exact r1,r2⟩
 ·rename_i x l
  simp only[aZ,aP] at hv;obtain⟨v',hv',rfl,rfl⟩:=hv;obtain⟨c,cs,hc,hx,hl,hrel⟩:=aey hr;obtain⟨c',r1,r2⟩:=aes l cs x v' c hl hrel hx hv';have he:Builtin.max_ tys ty bV=cs.foldlM Builtin.max2 c:=by unfold Builtin.max_;rw[hc]
  exact .j3 (s:=Builtin.max_ tys ty bV) h ⟨c',by rw[he];exact r1,r2⟩
 ·simp at hv
end
def lW (ro:Option Nat):Fence:={Fence.wide with round:=ro}
structure Dc where
 l:List Deferred
 B:Nat
 nm:Bool
def mark (b:Nat):Deferred:=⟨.collected b, #[]⟩
structure St (E:Env)(B0:Nat)(σ:au)(K:aV)(w:World)(fr:Fr)(a:Act)(n:Nat)(ds:Dc):Prop where
 ok:bA E B0 σ K w
 hB:B0<=w.heap.size
 fr:kF K σ.top w fr a.tmps
 sz:a.tmps.size=n
 df:∃bs:List Nat,a.defers=bs.map mark++ds.l/\bs.Nodup/\(∀b∈bs,K.D b/\ds.B<=b)/\(ds.nm=true->bs=[])
 st:∀s,K.A s->s<σ.next
 hD:ds.B<=w.heap.size
def lM:Ex->Exit->Prop
 |.normal,.normal=>True|.exit i,.exit j=>i=j|.ret,.ret=>True|_,_=>False
def newer (σ σ':au)(s:Nat):Prop:=σ.next<=s/\s<σ'.next
def BI (E:Env)(B0 n:Nat)(ds:Dc)(σ:au)(K:aV)(w:World)(e:Ex)(fr':Fr)(σ':au):Exit->Act->World->Prop:=
 fun x a' w'=>lM e x/\∃K',St E B0 σ' K' w' fr' a' n ds/\Step E B0 (newer σ σ') σ K w σ' K' w'
def Ma (E:Env)(code:Code->Fr->au->Option (Ex×Fr×au)):Prop:=
 ∀c fr σ e fr' σ',code c fr σ=some (e,fr',σ')->σ.next<=σ'.next/\∀ro B0 K w a n ds,St E B0 σ K w fr a n ds->jg n c=true->(ro=none/\ds.nm=false\/lG c=true)->c.wpIn (lW ro) 0 E.P (BI E B0 n ds σ K w e fr' σ') a w
def Ao (E:Env)(B0:Nat)(σ:au)(K:aV)(w:World)(v:V)(σ':au):Ending->World->Prop
 |.returned c,w'=>∃K',Rel K' σ'.top w' v c/\bA E B0 σ' K' w'/\(∀s,K'.A s->s<σ'.next)/\Step E B0 (newer σ σ') σ K w σ' K' w'|_,_=>False
def Df (E:Env)(f:FuncId):Prop:=∃fn c,E.P.funcs[f]? =some fn/\fn.body=some c
def H8 (E:Env)(call:FuncId->List V->Nat->au->Option (V×au)):Prop:=
 ∀f args d σ v σ',call f args d σ=some (v,σ')->σ.next<=σ'.next/\Df E f/\∀ro B0 K w bV,bA E B0 σ K w->B0<=w.heap.size->(∀s,K.A s->s<σ.next)->RelA K σ.top w args bV->
  CallsIn (lW ro) 0 E.P f bV w (Ao E B0 σ K w v σ')
structure Sound (E:Env)(S:l5):Prop where
 code:Ma E S.code
 call:H8 E S.call
theorem Step.widen {E:Env}{B0:Nat}{σ σ1 σ2:au}{K K1 K2:aV}{w w1 w2:World}(h:Step E B0 (newer σ σ1) σ K w σ1 K1 w1)(g:Step E B0 (newer σ1 σ2) σ1 K1 w1 σ2 K2 w2)(h1:σ.next<=σ1.next)(h2:σ1.next<=σ2.next):Step E B0 (newer σ σ2) σ K w σ2 K2 w2:=
 (h.mono (fun _ hs=>⟨hs.1,iq hs.2 h2⟩)).trans (g.mono (fun _ hs=>⟨bZ h1 hs.1,hs.2⟩))
end aY
end
section
open Go
namespace aY
section
variable {F:Fence}{n:Nat}{P:Program}{Q:Exit->Act->World->Prop}{b:Frame}{k:List Item}{cs:List Frame}{a:Act}{w:World}
theorem H9 {c:Code}:step P (lone (b.atR a (.code (.scope c)::k)) cs w)= .next (lone (b.atR a (.code c:: .inScope c::k)) cs w):=
 step_lone_go (by simp[stepG,stepG.exec,Frame.atR])
theorem amT {c:Code}:step P (lone (b.atR a (.inScope c::k)) cs w)= .next (lone (b.atR a k) cs w):=
 step_lone_go (by simp[stepG,stepG.exec,Frame.atR])
theorem amU {c:Code}(h:c.wpIn F n P (Exit.noGoto Q) a w):(Code.scope c).wpIn F n P Q a w:=by
 intro b k cs hro hb hr;have h0:(lone (b.atR a (.code (.scope c)::k)) cs w).fenced P F:=fenced_calm hb hr rfl;obtain⟨e,a₁,w₁,hq,harr⟩:=h b (.inScope c::k) cs hro hb hr;cases e with
 |normal=>exact⟨.normal,a₁,w₁,hq,.head h0 H9 (StepsIn.trans harr (.one (fenced_calm hb hr rfl) amT))⟩|exit id'=>
  have hx:exitTo id' (.inScope c::k)=exitTo id' k:=by simp[exitTo]
  exact⟨.exit id',a₁,w₁,hq,fun k' hk=>.head h0 H9 (harr.1 k' (by rw[hx];exact hk)),
   fun hr' hk=>let ⟨k₁,h1,h2⟩:=harr.2 hr' (by rw[hx];exact hk);⟨k₁,h1,.head h0 H9 h2⟩⟩
 |goto l=>exact hq.elim|ret=>exact⟨_,a₁,w₁,hq,.of_steps (.one h0 H9) harr⟩|panic ch=>exact⟨_,a₁,w₁,hq,.of_steps (.one h0 H9) harr⟩|outgrown=>exact⟨_,a₁,w₁,hq,.of_steps (.one h0 H9) harr⟩
end
end aY
end
section
namespace aY
open Go Go.RowKit
section
variable {E:Env}{B0:Nat}{σ:au}{K:aV}{w:World}{fr:Fr}{a:Act}{n:Nat}{ds:Dc}
def o8 (E:Env)(c:Code)(fr:Fr)(σ:au)(e:Ex)(fr':Fr)(σ':au):Prop:=
 σ.next<=σ'.next/\∀ro B0 K w a n ds,St E B0 σ K w fr a n ds->jg n c=true->(ro=none/\ds.nm=false\/lG c=true)->c.wpIn (lW ro) 0 E.P (BI E B0 n ds σ K w e fr' σ') a w
theorem amV:o8 E .skip fr σ .normal fr σ:=
 ⟨RS _,fun _ _ K _ _ _ _ h _ _=>wpIn_skip ⟨trivial,K,h,.refl h.ok⟩⟩
theorem amW (id:Nat):o8 E (.exit id) fr σ (.exit id) fr σ:=
 ⟨RS _,fun _ _ K _ _ _ _ h _ _=>wpIn_exit ⟨rfl,K,h,.refl h.ok⟩⟩
theorem amX:o8 E .ret fr σ .ret fr σ:=
 ⟨RS _,fun _ _ K _ _ _ _ h _ _=>wpIn_ret ⟨trivial,K,h,.refl h.ok⟩⟩
theorem amY (l:Nat):o8 E (.label l) fr σ .normal fr σ:=
 ⟨RS _,fun _ _ K _ _ _ _ h _ _=>wpIn_label ⟨trivial,K,h,.refl h.ok⟩⟩
theorem amZ {c:Code}{e:Ex}{bT:Fr}{σ1:au}(h:o8 E c fr σ e bT σ1):o8 E (.scope c) fr σ e bT σ1:=by
 refine⟨h.1,fun ro B0 K w a n ds hs hok hnr=>amU (wpIn_mono (h.2 ro B0 K w a n ds hs hok hnr) ?_)⟩;rintro x a1 w1 ⟨hx,hr⟩;cases x with
 |goto l=>cases e<;>simp only[lM] at hx|_=>exact⟨hx,hr⟩
theorem BI.widen {σ1 σ2:au}{K1:aV}{w1:World}{e:Ex}{fr':Fr}(h:Step E B0 (newer σ σ1) σ K w σ1 K1 w1)(h1:σ.next<=σ1.next)(h2:σ1.next<=σ2.next):
 ∀x a' w',BI E B0 n ds σ1 K1 w1 e fr' σ2 x a' w'->BI E B0 n ds σ K w e fr' σ2 x a' w':=by
 rintro x a' w' ⟨g1,K2,g2,g3⟩;exact⟨g1,K2,g2,h.widen g3 h1 h2⟩
theorem am0 {c d:Code}{e:Ex}{bT fT:Fr}{σ1 σ2:au}(h:o8 E c fr σ .normal bT σ1)(g:o8 E d bT σ1 e fT σ2):o8 E (.seq c d) fr σ e fT σ2:=by refine⟨bZ h.1 g.1,fun ro B0 K w a n ds hs hok hnr=>?_⟩;simp only[jg,iP] at hok;simp only[lG,iP] at hnr;refine wpIn_seq (wpIn_mono (h.2 ro B0 K w a n ds hs hok.1 (hnr.imp id And.left)) ?_);rintro x a1 w1 ⟨hx,K1,s1,st1⟩;cases x<;>simp only[lM] at hx;exact wpIn_mono (g.2 ro B0 K1 w1 a1 n ds s1 hok.2 (hnr.imp id And.right)) (BI.widen st1 h.1 g.1)
theorem aez {c d:Code}{e:Ex}{bT:Fr}{σ1:au}(he:e≠ .normal)(h:o8 E c fr σ e bT σ1):o8 E (.seq c d) fr σ e bT σ1:=by
 refine⟨h.1,fun ro B0 K w a n ds hs hok hnr=>?_⟩;simp only[jg,iP] at hok;simp only[lG,iP] at hnr;refine wpIn_seq (wpIn_mono (h.2 ro B0 K w a n ds hs hok.1 (hnr.imp id And.left)) ?_);rintro x a1 w1 ⟨hx,K1,s1,st1⟩;cases e<;>cases x<;>simp only[lM] at hx
 ·exact absurd rfl he
 ·exact⟨hx,K1,s1,st1⟩
 ·exact⟨hx,K1,s1,st1⟩
theorem am1 {c:Operand}{x y:Code}{t:Bool}{e:Ex}{bT:Fr}{σ1:au}(hc:xJ (fr.ev E c)=some t)(h:o8 E (if t then x else y) fr σ e bT σ1):o8 E (.cond c x y) fr σ e bT σ1:=by
 refine⟨h.1,fun ro B0 K w a n ds hs hok hnr=>?_⟩;simp only[jg,iP] at hok;simp only[lG,iP] at hnr;refine wpIn_cond (Ye (xR hs.ok hs.fr c) hc) (h.2 ro B0 K w a n ds hs ?_ ?_)
 ·cases t
  ·exact hok.2
  ·exact hok.1
 ·cases t
  ·exact hnr.imp id And.right
  ·exact hnr.imp id And.left
def Mc (id:Nat):Ex->Ex
 |.exit i=>if i=id then .normal else .exit i|e=>e
theorem am2 {id:Nat}{c:Code}{e:Ex}{bT:Fr}{σ1:au}(h:o8 E c fr σ e bT σ1):o8 E (.block id c) fr σ (Mc id e) bT σ1:=by
 refine⟨h.1,fun ro B0 K w a n ds hs hok hnr=>wpIn_block (wpIn_mono (h.2 ro B0 K w a n ds hs hok hnr) ?_)⟩;rintro x a1 w1 ⟨hx,K1,s1,st1⟩;cases e with
 |normal=>cases x<;>simp only[lM] at hx;exact⟨trivial,K1,s1,st1⟩|ret=>cases x<;>simp only[lM] at hx;exact⟨trivial,K1,s1,st1⟩|exit i=>
  cases x<;>simp only[lM] at hx;subst hx;simp only[Exit.inBlock,Mc];split
  ·exact⟨trivial,K1,s1,st1⟩
  ·exact⟨rfl,K1,s1,st1⟩
end
section
variable {E:Env}{B0:Nat}{σ σ':au}{K K':aV}{w w':World}{fr:Fr}{a:Act}{n:Nat}{ds:Dc}
theorem kF.put {T:Nat->Nat}(h:kF K T w fr a.tmps){d:Option Nat}{v:V}{c:Value}(hr:Rel K T w v c)(hd:∀i,d=some i->i<a.tmps.size):kF K T w (fr.put d v) (a.put d c).tmps:=by
 cases d with
 |none=>exact h|some i=>
  have hi:=hd i rfl;intro t;show Rel K T w (upd fr.tm i v t) ((a.tmps.setIfInBounds i c).getD t undef);by_cases ht:t=i
  ·subst ht
   rw[upd_same];have:(a.tmps.setIfInBounds t c).getD t undef=c:=by simp[Array.getD,hi]
   rw[this];exact hr
  ·rw[upd_ne _ _ ht]
   have:(a.tmps.setIfInBounds i c).getD t undef=a.tmps.getD t undef:=by
    simp only[Array.getD,Array.size_setIfInBounds];split
    ·rename_i hlt
     show (a.tmps.setIfInBounds i c)[t]'(by simpa using hlt)=a.tmps[t];rw[Array.getElem_setIfInBounds_ne hlt (Ne.symm ht)]
    ·rfl
   rw[this];exact h t
theorem am3 (a:Act)(d:Option Nat)(c:Value):(a.put d c).tmps.size=a.tmps.size:=by cases d<;>simp[Act.put]
theorem put_defers (a:Act)(d:Option Nat)(c:Value):(a.put d c).defers=a.defers:=GX
theorem St.put (h:St E B0 σ K w fr a n ds){new:Nat->Prop}{d:Option Nat}{v:V}{c:Value}(hs:Step E B0 new σ K w σ' K' w')(hr:Rel K' σ'.top w' v c)(hd:∀i,d=some i->i<n)(hst:∀s,K'.A s->s<σ'.next):
 St E B0 σ' K' w' (fr.put d v) (a.put d c) n ds:=
 ⟨hs.ok,bZ h.hB hs.below.size,kF.put (h.fr.ext hs.ext) hr (fun i hi=>by rw[h.sz];exact hd i hi),by rw[am3];exact h.sz,by obtain⟨bs,h1,h2,h3,h4⟩:=h.df;exact⟨bs,by rw[put_defers];exact h1,h2,fun b hb=>⟨hs.D b (h3 b hb).1,(h3 b hb).2⟩,h4⟩,hst,bZ h.hD hs.below.size⟩
theorem Md {o:Oper}(ro:Option Nat)(ρ:Operand->Value)(h:∀c,o.op≠ .defer c):o.semAt ro ρ=execOp ρ o:=by
 unfold Oper.semAt;split
 ·rename_i c hc
  exact absurd hc (h c)
 ·rfl
theorem am4 {o:Oper}{ro:Option Nat}{new:Nat->Prop}{v:V}{next:Act->World->Prop}{Q:Exit->Act->World->Prop}(ho:∀c,o.op≠ .defer c)(hd:wm E B0 new σ K w (execOp a.eval o) v σ')(hn:∀c w' K',Rel K' σ'.top w' v c->Step E B0 new σ K w σ' K' w'->next (a.put o.dst c) w'):o.wpIn (lW ro) 0 E.P a w next Q:=by
 refine⟨fun f _=>trivial,?_⟩;obtain⟨nx,c,w',K',h1,h2,h3,h4⟩:=hd;rw[Md _ _ ho,h1];rcases h2 with rfl| ⟨rfl,rfl⟩
 ·exact hn c w' K' h3 h4
 ·exact hn undef w' K' h3 h4
end
def uX (σ σ':au):Prop:=σ'.next=σ.next/\σ'.loops=σ.loops
theorem uX.refl (σ:au):uX σ σ:=⟨rfl,rfl⟩
section
variable {E:Env}{σ σ':au}{fr:Fr}
theorem am5 {t:TypeId}{m k v:V}(h:Bz E.P σ t m k v=some σ'):uX σ σ':=by
 simp only[Bz,iR] at h;obtain⟨⟨kt,et⟩,_,h⟩:=h;split at h
 ·cases m<;>simp only[reduceCtorEq] at h
  simp only[iR,aZ] at h;obtain⟨_,_,_,_,rfl⟩:=h;exact⟨rfl,rfl⟩
 ·simp at h
theorem am6 {aj:Bool}{st:Nat}{loc:Option Loc}{t:TypeId}{l c v:V}(h:BA E.P aj σ st loc t l c=some (v,σ')):uX σ σ':=by
 simp only[BA,iR] at h;obtain⟨_,_,_,_,_,_,_,_,_,_,_,_,h⟩:=h;split at h
 ·split at h
  ·simp only[iE,aP] at h
   obtain⟨_,rfl⟩:=h;exact⟨rfl,rfl⟩
  ·simp only[iR,aZ,aP] at h
   obtain⟨_,_,_,_,_,rfl⟩:=h;exact⟨rfl,rfl⟩
 ·simp at h
theorem am7 {t:TypeId}{x y v:V}(h:copyV E.P σ t x y=some (v,σ')):uX σ σ':=by unfold copyV at h;cases h
theorem Yh {aj zeros:Bool}{st:Nat}{loc:Option Loc}{t:TypeId}{x y v:V}(h:mI E.P aj zeros σ st loc t x y=some (v,σ')):uX σ σ':=by
 simp only[mI,iR] at h;obtain⟨_,_,_,_,_,_,_,_,_,_,h⟩:=h;split at h
 ·simp only[iR] at h
  obtain⟨_,_,h⟩:=h;split at h
  ·split at h
   ·split at h
    ·split at h
     all_goals first
      | (simp only[aZ,aP] at h;obtain⟨_,_,_,rfl⟩:=h;exact⟨rfl,rfl⟩)
      | (simp only[iE,aP] at h;obtain⟨_,rfl⟩:=h;exact⟨rfl,rfl⟩)
      | (split at h
         ·simp at h
         ·simp only[aZ,aP] at h;obtain⟨_,_,_,rfl⟩:=h;exact⟨rfl,rfl⟩)
      | (split at h
         ·simp only[iE,aP] at h;obtain⟨_,rfl⟩:=h;exact⟨rfl,rfl⟩
         ·simp only[aZ,aP] at h;obtain⟨_,_,_,rfl⟩:=h;exact⟨rfl,rfl⟩)
      | (split at h
         ·simp only[iE,aP] at h;obtain⟨_,rfl⟩:=h;exact⟨rfl,rfl⟩
         ·simp at h)
      |simp at h
    ·simp at h
   ·split at h
    ·simp only[iR] at h
     obtain⟨_,_,_,_,h⟩:=h;split at h
     ·split at h
      ·simp only[iE,aP] at h;obtain⟨_,rfl⟩:=h;exact⟨rfl,rfl⟩
      ·simp at h
     ·split at h
      ·simp only[iE,aP] at h;obtain⟨_,rfl⟩:=h;exact⟨rfl,rfl⟩
      ·simp at h
    ·simp at h
   ·simp at h
  ·simp at h
 ·simp at h
theorem am8 {t:TypeId}{x v:V}(h:Hg E.P σ t x=some (v,σ')):uX σ σ':=by unfold Hg at h;cases h
theorem aeA {aj:Bool}{st:Nat}{loc:Option Loc}{b:Builtin}{tys:Array TypeId}{args:List V}{v:V}(h:qg E aj loc σ st b tys args=some (v,σ')):uX σ σ':=by
 unfold qg at h;split at h
 ·simp only[iR,aZ,aP] at h
  obtain⟨_,_,_,_,_,rfl⟩:=h;exact .refl _
 ·simp only[iR] at h
  obtain⟨_,_,_,_,h⟩:=h;split at h
  ·simp only[iE,aP] at h;obtain⟨_,rfl⟩:=h;exact .refl _
  ·simp only[iE,aP] at h;obtain⟨_,rfl⟩:=h;exact .refl _
  ·simp at h
 ·simp only[iR] at h
  obtain⟨_,_,_,_,h⟩:=h;split at h
  ·exact Yh h
  ·exact Yh h
  ·exact Yh h
  ·simp at h
 ·simp only[iR] at h
  obtain⟨_,_,h⟩:=h;exact am7 h
 ·simp only[iR] at h
  obtain⟨_,_,h⟩:=h;exact am8 h
 ·simp only[aZ,aP] at h
  obtain⟨_,_,_,rfl⟩:=h;exact .refl _
 ·simp only[aZ,aP] at h
  obtain⟨_,_,_,rfl⟩:=h;exact .refl _
 ·simp at h
theorem am9 {x v:V}(h:yS σ x=some (v,σ')):uX σ σ':=by
 unfold yS at h;split at h
 ·simp only[iR] at h
  obtain⟨_,_,h⟩:=h;split at h
  ·simp only[iE,aP] at h;obtain⟨_,rfl⟩:=h;exact⟨rfl,rfl⟩
  ·simp at h
 ·simp only[iE,aP] at h;obtain⟨_,rfl⟩:=h;exact .refl _
 ·simp only[iE,aP] at h;obtain⟨_,rfl⟩:=h;exact .refl _
theorem ana {st:Nat}{loc:Option Loc}{t:TypeId}{len:Nat}{ps:List (Nat×V)}{v:V}(h:CX E σ st loc t len ps=some (v,σ')):uX σ σ':=by
 simp only[CX,iR] at h;obtain⟨_,_,_,_,_,_,_,_,h⟩:=h;split at h
 ·simp only[iR,aZ,aP] at h
  obtain⟨_,_,_,_,_,rfl⟩:=h;exact⟨rfl,rfl⟩
 ·simp at h
theorem aeB {st:Nat}{o:Oper}{v:V}(h:eP E fr σ st o=some (v,σ')):uX σ σ':=by
 unfold eP at h;split at h;all_goals first
  |exact am6 h
  | (split at h<;>first
      |exact am9 h
      |exact ana h
      | (simp only[aZ,aP] at h;obtain⟨_,_,_,rfl⟩:=h;exact⟨rfl,rfl⟩)
      | (simp only[iE,aP] at h;obtain⟨_,rfl⟩:=h;exact .refl _))
  | (simp only[iE,aP] at h;obtain⟨_,rfl⟩:=h;exact .refl _)
  | (simp only[aZ,aP] at h;obtain⟨_,_,_,rfl⟩:=h;exact⟨rfl,rfl⟩)
  | (simp only[aZ,aP] at h;obtain⟨_,h1,_,rfl⟩:=h;exact am5 h1)
  | (simp only[iR,aZ,aP] at h;obtain⟨_,_,_,_,_,_,_,rfl⟩:=h;exact⟨rfl,rfl⟩)
  |simp at h
  | (simp only[iR] at h
     obtain⟨_,_,h⟩:=h;split at h
     ·simp only[iE,aP] at h;obtain⟨_,rfl⟩:=h;exact⟨rfl,rfl⟩
     ·simp at h)
  |skip
 all_goals
  repeat' first
   |exact⟨rfl,rfl⟩
   | (obtain⟨_,_,h⟩:=h)
   | (simp only[iR] at h)
   |split at h
   | (simp only[iE,aP] at h;obtain⟨_,rfl⟩:=h;exact⟨rfl,rfl⟩)
   | (simp only[aZ,aP] at h;obtain⟨_,_,_,rfl⟩:=h;exact⟨rfl,rfl⟩)
   | (simp at h;done)
end
def aV.lend (I:Nat->Nat->Prop)(IM:Nat->Prop):aV:=
 {A:=fun _=>False,blk:=fun _=>0,sz:=fun _=>0,ob:=fun _=>0,lo:=fun _=>0,hi:=fun _=>0,lp:=fun _=>0,I:=I,IM:=IM,D:=fun _=>False,ρ:=fun _=>none}
def grow (I:Nat->Nat->Prop)(B:Nat)(w:World)(b o:Nat):Prop:=(I b o\/B<=b)/\∃v,w.cell? (at_ b o)=some v
def wo (IM:Nat->Prop)(B:Nat)(w:World)(b:Nat):Prop:=(IM b\/B<=b)/\tX w b
theorem uY:∀{l:List V},bN l=true->∀i,i<l.length->aU (l.getD i aK)=true
 |v::l,h,0,_=>by simp only[bN,iP] at h;exact h.1|v::l,h,i+1,hi=>by simp only[bN,iP] at h;exact uY h.2 i jI
theorem Yi:∀{l:List V},kW l=true->∀i,i<l.length->flat (l.getD i aK)=true
 |v::l,h,0,_=>by simp only[kW,iP] at h;exact h.1|v::l,h,i+1,hi=>by simp only[kW,iP] at h;exact Yi h.2 i jI
theorem Yj {v:V}(h:aU v=true){j:Nat}(hj:j<v.cells.length):aU (v.cells.getD j aK)=true:=by
 cases v with
 |agg cs=>exact uY (l:=cs) (by simpa [aU] using h) j hj|_=>
  have:j=0:=by simpa [V.cells] using hj
  subst this;exact h
section
variable {K K':aV}{T T':Nat->Nat}{w w':World}
theorem Rel.pure {v:V}{c:Value}(h:Rel K T w v c)(hp:aU v=true)(hI:∀b o,K.I b o->K'.I b o/\w'.cell? (at_ b o)=w.cell? (at_ b o))(hM:∀b,K.IM b->K'.IM b/\w'.heap[b]? =w.heap[b]?):Rel K' T' w' v c:=by
 induction h with
 |int k n=>exact .int k n|bool b=>exact .bool b|str s b h=>exact .str s b h|cB=>exact .cB|dF=>exact .dF|gL=>exact .gL|iD=>exact .iD|agg cs vs hl _ ih=>exact .agg cs vs hl (fun i hi=>ih i hi (uY Cy i hi))
 |bq cs vs hl _ ih=>exact .bq cs vs hl (fun i hi=>ih i hi (uY Cy i hi))
 |fu c a ha hc=>
  cases c<;>simp only[aU,dO] at hp;exact .fu .sh a (fun h=>bC) trivial
 |ay c l b o n cap val hle hn hcell _ hc ih=>
  cases c<;>simp only[aU,dO] at hp;refine .ay .sh l b o n cap val hle hn (fun i j hi hj=>?_) (fun i j hi hj=>ih i j hi hj (Yj (uY hp i hi) (by rw[hn i hi];exact hj))) trivial;obtain⟨h1,h2⟩:=hcell i j hi hj;obtain⟨g1,g2⟩:=hI _ _ h2;exact⟨g2.trans h1,g1⟩
 |aJ loc s off len cap bS ag eH hA hc hle hsz=>simp[aU] at hp|l6 loc s bS ag hA=>simp[aU] at hp|aI cs off b o val hcell _ ih=>refine .aI cs off b o val (fun j hj=>?_) (fun j hj=>ih j hj (uY Cy j hj));obtain⟨h1,h2⟩:=hcell j hj;obtain⟨g1,g2⟩:=hI _ _ h2;exact⟨g2.trans h1,g1⟩
 |ref loc s off hA=>simp[aU] at hp|fn f a b kE bv ha hb _ _ iha ihb=>simp only[aU,iP] at hp;exact .fn f a b kE bv ha hb (fun i hi=>iha i hi (uY hp.1 i hi)) (fun i hi=>ihb i hi (uY hp.2 i hi))
 |yield l hA=>simp[aU] at hp|dJ loc s hA=>simp[aU] at hp|eU ks vs b es bR hM' hb hk hv _ _ ihk EM=>simp only[aU,iP] at hp;obtain⟨g1,g2⟩:=hM b hM';exact .eU ks vs b es bR g1 (g2.trans hb) hk hv (fun i hi=>ihk i hi (uY hp.1 i ah)) (fun i hi=>EM i hi (uY hp.2 i ah))
 |iface t v c _ ih=>exact .iface t v c (ih Cy)|raw v=>simp[aU] at hp
theorem Rel.flat {v:V}{c:Value}(h:Rel K T w v c)(hp:flat v=true):Rel K' T' w' v c:=by
 induction h with
 |int k n=>exact .int k n|bool b=>exact .bool b|str s b h=>exact .str s b h|cB=>exact .cB|dF=>exact .dF|gL=>exact .gL|iD=>exact .iD|agg cs vs hl _ ih=>exact .agg cs vs hl (fun i hi=>ih i hi (Yi (by simpa [aY.flat] using hp) i hi))
 |bq cs vs hl _ ih=>exact .bq cs vs hl (fun i hi=>ih i hi (Yi (by simpa [aY.flat] using hp) i hi))
 |_=>simp[aY.flat] at hp
theorem anb {cs:List V}{vs:Array Value}(h:Rel K T w (.agg cs) (.agg vs)):cs.length=vs.size/\∀i,i<cs.length->Rel K T w (cs.getD i aK) (vs.getD i undef):=by
 cases h with
 |agg _ _ hl h=>exact⟨hl,h⟩
theorem anc {n:Nat}{σ:au}{cs:List V}{v:V}(h:bn n σ (.agg cs)=some v):∃cs',v= .agg cs':=by
 cases n with
 |zero=>simp[bn] at h|succ n=>
  unfold bn at h;split at h
  ·simp only[iE] at h;exact⟨cs,h.symm⟩
  ·simp only[aZ] at h;obtain⟨cs',_,rfl⟩:=h;exact⟨cs',rfl⟩
theorem ane {n:Nat}{σ:au}{x v:V}(hx:∀cs,x≠ .agg cs)(h:bn n σ x=some v):v.cells=[v]/\x.cells=[x]:=by
 have h2:x.cells=[x]:=by cases x<;>first|rfl|exact absurd rfl (hx _)
 refine⟨?_,h2⟩;cases n with
 |zero=>simp[bn] at h|succ n=>
  unfold bn at h;split at h
  ·simp only[iE] at h;subst h;exact h2
  ·split at h
   all_goals try (simp only[reduceCtorEq] at h;done)
   all_goals try (simp only[aZ] at h;obtain⟨_,_,rfl⟩:=h;first|rfl|exact absurd rfl (hx _))
   all_goals try (simp only[iR,aZ] at h;obtain⟨_,_,_,_,rfl⟩:=h;rfl)
   ·simp only[iR] at h
    obtain⟨_,_,h⟩:=h;split at h
    ·simp only[iR] at h
     obtain⟨_,_,h⟩:=h;split at h
     ·simp only[iE] at h;subst h;rfl
     ·simp at h
    ·simp at h
   ·simp only[iR] at h
    obtain⟨⟨ks,vs⟩,_,h⟩:=h;simp only[iR,aZ] at h;obtain⟨_,_,_,_,rfl⟩:=h;rfl
theorem Yk {E:Env}{B0:Nat}{σ:au}(h:bA E B0 σ K w):∀(n:Nat)(v v':V)(c:Value),Rel K σ.top w v c->bn n σ v=some v'->
 Rel (aV.lend (grow K.I B0 w) (wo K.IM B0 w)) T' w v' c:=by
 have xV:∀b o,K.I b o->grow K.I B0 w b o/\w.cell? (at_ b o)=w.cell? (at_ b o):=fun b o hi=>⟨⟨.inl hi,(h.I b o hi).1⟩,rfl⟩;have y7:∀b,K.IM b->wo K.IM B0 w b/\w.heap[b]? =w.heap[b]? :=fun b hi=>⟨⟨.inl hi,(h.IM b hi).1⟩,rfl⟩;intro n;induction n with
 |zero=>intro v v' c _ hc;simp[bn] at hc|succ n ih=>
  intro v v' c hr hc;have hlist:∀(l l':List V)(val:Nat->Value),l.mapM (bn n σ)=some l'->(∀i,i<l.length->Rel K σ.top w (l.getD i aK) (val i))->
   l'.length=l.length/\∀i,i<l'.length->Rel (aV.lend (grow K.I B0 w) (wo K.IM B0 w)) T' w (l'.getD i aK) (val i):=by
   intro l l' val hm hv;obtain⟨h1,h2⟩:=mapM_some hm;refine⟨h1.symm,fun i hi=>?_⟩;obtain⟨h3,h4⟩:=h2 i ah;have:=hv i ah;rw[jZ (show i<l.length by omega)] at this;rw[jZ h3];exact ih _ _ _ this h4
  have hcells:∀(x x':V)(m:Nat)(val:Nat->Value),bn n σ x=some x'->x.cells.length=m->(∀j,j<m->Rel K σ.top w (x.cells.getD j aK) (val j))->
   x'.cells.length=m/\∀j,j<m->Rel (aV.lend (grow K.I B0 w) (wo K.IM B0 w)) T' w (x'.cells.getD j aK) (val j):=by
   intro x x' m val hx hm hv;by_cases hag:∃cs,x= .agg cs
   ·obtain⟨cs,rfl⟩:=hag
    obtain⟨cs',rfl⟩:=anc hx;have hm':cs.length=m:=hm;have hcell:∀j,j<m->(Array.ofFn fun i:Fin m=>val i).getD j undef=val j:=fun j hj=>by simp[Array.getD,hj]
    have r:Rel K σ.top w (.agg cs) (.agg (Array.ofFn fun i:Fin m=>val i)):=.agg _ _ (by simpa using hm') (fun i hi=>by rw[hcell i ah];exact hv i ah);obtain⟨g1,g2⟩:=anb (ih _ _ _ r hx);have g1':cs'.length=m:=(by simpa using g1);exact⟨g1',fun j hj=>by have:=g2 j ah;rw[hcell j hj] at this;exact this⟩
   ·obtain⟨h1,h2⟩:=ane (fun cs e=>hag ⟨cs,e⟩) hx
    rw[h2] at hm hv;have hm1:m=1:=(by simpa using hm.symm);subst hm1;rw[h1];refine⟨rfl,fun j hj=>?_⟩;have hj0:j=0:=ah;subst hj0;exact ih _ _ _ (hv 0 ah) hx
  have RN:∀loc s cs,σ.dB loc s=some cs->cs≠[]->∃vals t,w.heap[K.blk s]? =some (.cells vals t (0,0))/\vals.size=K.sz s/\cs.length<=vals.size/\B0<=K.blk s/\
   (∀i,i<cs.length->Rel K σ.top w (cs.getD i aK) (vals.getD i undef))/\∀i,i<vals.size->w.cell? (at_ (K.blk s) i)=some (vals.getD i undef):=by
   intro loc s cs hcs hne;obtain⟨g1,_,_⟩:=h.yY hcs;obtain⟨a1,a2,a3⟩:=h.obj _ _ _ g1;obtain⟨b1,vals,t,b2,b3,b4,b5⟩:=a2.2 hne;refine⟨vals,t,b2,b3,b4,b1,b5,fun i hi=>?_⟩;simp[World.cell?,b2,Array.getD,hi]
  unfold bn at hc;split at hc
  ·rename_i hp
   simp only[iE] at hc;subst hc;exact hr.pure hp xV y7
  ·cases hr with
   |fu c a ha hcn=>simp only[List.mapM_nil,Option.pure_def,Option.map_some,iE] at hc;subst hc;exact .fu .sh a (fun h=>bC) trivial
   |ay c l b o m cap val hle hn hcell hrel hcap=>
    simp only[aZ] at hc;obtain⟨l',hm,rfl⟩:=hc;obtain⟨h1,h2⟩:=mapM_some hm;have hel:∀i,i<l'.length->(l'.getD i aK).cells.length=m/\∀j,j<m->Rel (aV.lend (grow K.I B0 w) (wo K.IM B0 w)) T' w ((l'.getD i aK).cells.getD j aK) (val i j):=by
     intro i hi;obtain⟨h3,h4⟩:=h2 i ah;rw[jZ h3];refine hcells _ _ m (val i) h4 ?_ (fun j hj=>?_)
     ·have:=hn i ah;rwa[jZ (show i<l.length by omega)] at this
     ·have:=hrel i j ah hj;rwa[jZ (show i<l.length by omega)] at this
    rw[h1];refine .ay .sh l' b o m cap val ah (fun i hi=>(hel i hi).1) (fun i j hi hj=>?_) (fun i j hi hj=>(hel i hi).2 j hj) trivial;obtain⟨e1,e2⟩:=hcell i j ah hj;exact⟨e1,(xV _ _ e2).1⟩
   |agg cs vs hl hrel=>simp only[aZ] at hc;obtain⟨l',hm,rfl⟩:=hc;obtain⟨h1,h2⟩:=hlist _ _ (fun i=>vs.getD i undef) hm hrel;exact .agg _ _ ah h2
   |bq cs vs hl hrel=>simp only[aZ] at hc;obtain⟨l',hm,rfl⟩:=hc;obtain⟨h1,h2⟩:=hlist _ _ (fun i=>vs.getD i undef) hm hrel;exact .bq _ _ ah h2
   |aI cs off b o val hcell hrel=>simp only[aZ] at hc;obtain⟨l',hm,rfl⟩:=hc;obtain⟨h1,h2⟩:=hlist _ _ val hm hrel;exact .aI l' off b o val (fun j hj=>⟨(hcell j ah).1,(xV _ _ (hcell j ah).2).1⟩) h2
   |fn f a b kE bv ha hb ra rb=>simp only[iR,aZ] at hc;obtain⟨a',hma,b',hmb,rfl⟩:=hc;obtain⟨h1,h2⟩:=hlist _ _ (fun i=>kE.getD i undef) hma ra;obtain⟨h3,h4⟩:=hlist _ _ (fun i=>bv.getD i undef) hmb rb;exact .fn f a' b' kE bv ah ah h2 h4
   |ref loc s off hA=>
    simp only[iR,aZ] at hc;obtain⟨cs,hcs,cs',hm,rfl⟩:=hc;have key:Rel (aV.lend (grow K.I B0 w) (wo K.IM B0 w)) T' w (.aI cs' off) (.pointer (some (at_ (K.blk s) (0+off)))):=by
     by_cases hne:cs=[]
     ·subst hne
      simp only[List.mapM_nil,Option.pure_def,iE] at hm;subst hm;exact .aI [] off _ 0 (fun _=>undef) (fun j hj=>absurd hj (gK j)) (fun j hj=>absurd hj (gK j))
     ·obtain⟨vals,t,e1,e2,e3,e4,e5,e6⟩:=RN _ _ _ hcs hne
      obtain⟨h1,h2⟩:=hlist _ _ (fun i=>vals.getD i undef) hm e5;refine .aI cs' off _ 0 (fun i=>vals.getD i undef) (fun j hj=>?_) h2;rw[nS];exact⟨e6 j ah,.inr e4,_,e6 j ah⟩
    rwa[nS] at key
   |l6 loc s bS ag hA=>
    simp only[iR] at hc;obtain⟨cs,hcs,hc⟩:=hc;split at hc
    ·simp only[iR] at hc
     obtain⟨cs',hm,hc⟩:=hc;split at hc
     ·simp only[iE] at hc
      subst hc;exact .fu .sh none (fun _=>rfl) trivial
     ·simp at hc
    ·simp at hc
   |aJ loc s off len cap bS ag eH hA hcp hle hsz=>
    simp only[iR] at hc;obtain⟨cs,hcs,hc⟩:=hc;split at hc
    ·rename_i hlen
     simp only[iR] at hc;obtain⟨cs',hm,hc⟩:=hc;split at hc
     ·rename_i hag
      simp only[iE] at hc;subst hc;have L8:ag=false->bS=1:=fun e=>by simp[e] at hag;exact hag.1
      have L9:ag=false->dD cs'=true:=fun e=>by simp[e] at hag;exact hag.2
      have hl':((cs.drop off).take (len*bS)).length=len*bS:=jR;by_cases hne:cs=[]
      ·subst hne
       have h0:len*bS=0:=(by simp at hlen;omega);have hd:(([]:List V).drop off).take (len*bS)=[]:=aC;rw[hd] at hm;simp only[List.mapM_nil,Option.pure_def,iE] at hm;subst hm;exact LX (w:=w) (val:=fun _=>undef) L8 (by rw[h0];exact kN _) L9 (fun j hj=>ah) (fun j hj=>ah) ah trivial
      ·obtain⟨vals,t,e1,e2,e3,e4,e5,e6⟩:=RN _ _ _ hcs hne
       obtain⟨h1,h2⟩:=hlist _ _ (fun i=>vals.getD (off+i) undef) hm (fun i hi=>by rw[hl'] at hi;rw[xS _ hi,yZ];exact e5 _ ah);rw[hl'] at h1;refine LX (w:=w) (val:=fun i=>vals.getD (off+i) undef) L8 ah L9 (fun j hj=>⟨e6 _ ah,.inr e4,_,e6 _ ah⟩) (fun j hj=>h2 j ah) ah trivial
     ·simp at hc
    ·simp at hc
   |dJ loc s hA=>
    simp only[iR] at hc;obtain⟨⟨ks,vs⟩,hmp,hc⟩:=hc;simp only[iR,aZ] at hc;obtain⟨ks',hk,vs',hv,rfl⟩:=hc;have gX:σ.obj loc=some (s,.map ks vs):=by
     unfold au.jw at hmp;split at hmp
     ·rename_i s' aBi vs0 ho
      split at hmp
      ·rename_i hs
       simp only[iE,aP] at hmp;obtain⟨rfl,rfl⟩:=hmp;rw[ho,hs]
      ·simp at hmp
     ·simp at hmp
    obtain⟨_,⟨a1,es,bR,a2,_,a3,a4,a5,a6⟩,_⟩:=h.obj _ _ _ gX;obtain⟨h1,h2⟩:=hlist _ _ (fun i=>(es.getD i default).key) hk (fun i hi=>a5 i ah);obtain⟨h3,h4⟩:=hlist _ _ (fun i=>(es.getD i default).val) hv (fun i hi=>a6 i ah);exact .eU ks' vs' _ es bR ⟨.inr a1,_,a2,trivial⟩ a2 ah ah (fun i hi=>h2 i ah) (fun i hi=>h4 i ah)
   |eU ks vs b es bR hM hb hk hv rk rv=>simp only[iR,aZ] at hc;obtain⟨ks',hk',vs',hv',rfl⟩:=hc;obtain⟨h1,h2⟩:=hlist _ _ (fun i=>(es.getD i default).key) hk' (fun i hi=>rk i ah);obtain⟨h3,h4⟩:=hlist _ _ (fun i=>(es.getD i default).val) hv' (fun i hi=>rv i ah);exact .eU ks' vs' b es bR (y7 b hM).1 hb ah ah (fun i hi=>h2 i ah) (fun i hi=>h4 i ah)
   |iface t x c hx=>simp only[aZ] at hc;obtain⟨x',hx',rfl⟩:=hc;exact .iface t x' c (ih _ _ _ hx hx')
   |_=>simp at hc
end
def Ap (E:Env)(I:Nat->Nat->Prop)(IM:Nat->Prop)(w:World):Prop:=
 (∀b o,I b o->∃v,w.cell? (at_ b o)=some v)/\(∀b,IM b->tX w b)/\
 ∀g cs,E.glob g=some cs->Rel (aV.lend I IM) (fun _=>0) w (.aI cs 0) (.pointer (some (at_ g 0)))
def aeC (I:Nat->Nat->Prop)(IM:Nat->Prop)(w:World)(v:V):Ending->World->Prop
 |.returned c,w'=>Below w.heap.size w w'/\Rel (aV.lend (grow I w.heap.size w') (wo IM w.heap.size w')) (fun _=>0) w' v c
 |_,_=>False
def qY (E:Env)(f:FuncId)(args:List V)(v:V):Prop:=
 Df E f/\∀I IM w bV,Ap E I IM w->RelA (aV.lend I IM) (fun _=>0) w args bV->CallsIn Fence.wide 0 E.P f bV w (aeC I IM w v)
structure kX (E:Env):Prop where
 name:∀(f:FuncId)(fn:Func),E.P.funcs[f]? =some fn->fn.name≠ "runtime.NumGoroutine"
 qV:∀f g,E.qV f=some g->∀args v,g args=some v->qY E f args v
 mixed:E.P.follows .mixedOrders=true
 flat:∀g cs,E.glob g=some cs->bN cs=true
 cl:∀f g,E.cl f=some g->∀args v,g args=some v->Df E f/\∀ro B0 (σ:au) K w bV,bA E B0 σ K w->B0<=w.heap.size->(∀s,K.A s->s<σ.next)->RelA K σ.top w args bV->CallsIn (lW ro) 0 E.P f bV w (Ao E B0 σ K w v σ):=by intro _ _ h;cases h
section
variable {E:Env}{S:l5}{K K':aV}{T T':Nat->Nat}{w w':World}{σ σ':au}{B0:Nat}
theorem Rel.Me {I:Nat->Nat->Prop}{IM:Nat->Prop}{v:V}{c:Value}(h:Rel (aV.lend I IM) T w v c)(hI:∀b o,I b o->K'.I b o/\w'.cell? (at_ b o)=w.cell? (at_ b o))(hM:∀b,IM b->K'.IM b/\w'.heap[b]? =w.heap[b]?):Rel K' T' w' v c:=by
 generalize hK:aV.lend I IM=K at h;induction h with
 |int k n=>exact .int k n|bool b=>exact .bool b|str s b h=>exact .str s b h|cB=>exact .cB|dF=>exact .dF|gL=>exact .gL|iD=>exact .iD|agg cs vs hl _ ih=>exact .agg cs vs hl (fun i hi=>ih i hi)
 |bq cs vs hl _ ih=>exact .bq cs vs hl (fun i hi=>ih i hi)
 |fu c a ha hc=>
  cases c with
  |own n s=>subst hK;exact hc.1.elim|_=>exact .fu _ a ha trivial
 |ay c l b o n cap val hle hn hcell _ hc ih=>
  refine .ay c l b o n cap val hle hn (fun i j hi hj=>?_) ih ?_
  ·obtain⟨h1,h2⟩:=hcell i j hi hj
   subst hK;obtain⟨g1,g2⟩:=hI _ _ h2;exact⟨g2.trans h1,g1⟩
  ·cases c with
   |own n s=>subst hK;exact hc.2.1.elim|sh=>trivial|full=>exact hc|nil=>exact hc
 |aJ loc s off len cap bS ag eH hA hc hle hsz=>subst hK;exact hA.elim|l6 loc s bS ag hA=>subst hK;exact hA.elim|aI cs off b o val hcell _ ih=>refine .aI cs off b o val (fun j hj=>?_) ih;obtain⟨h1,h2⟩:=hcell j hj;subst hK;obtain⟨g1,g2⟩:=hI _ _ h2;exact⟨g2.trans h1,g1⟩
 |ref loc s off hA=>subst hK;exact hA.elim|fn f a b kE bv ha hb _ _ iha ihb=>exact .fn f a b kE bv ha hb iha ihb|yield l hA=>subst hK;exact hA.elim|dJ loc s hA=>subst hK;exact hA.elim|eU ks vs b es bR hM' hb hk hv _ _ ihk EM=>subst hK;obtain⟨g1,g2⟩:=hM b hM';exact .eU ks vs b es bR g1 (g2.trans hb) hk hv ihk EM
 |iface t v c _ ih=>exact .iface t v c ih|raw v=>exact .raw v
theorem Ia {B b o:Nat}(h:Below B w w')(hb:b<B):w'.cell? (at_ b o)=w.cell? (at_ b o):=cell_of_heap (h.block b hb)
theorem R9 {I:Nat->Nat->Prop}{IM:Nat->Prop}(h:Ap E I IM w):bA E w.heap.size au.init (aV.lend I IM) w where
 obj loc s ob hs:=by simp[au.init] at hs
 own s hs:=hs.elim
 I b o hi:=⟨h.1 b o hi,fun loc e=>by simp[aV.lend] at e⟩
 IM b hi:=⟨h.2.1 b hi,fun loc e=>by simp[aV.lend] at e⟩
 loop l r hl:=by simp[au.init] at hl
 glob g cs hg:=by have:=h.2.2 g cs hg;exact this.Me (fun _ _ h=>⟨h,rfl⟩) (fun _ h=>⟨h,rfl⟩)
 rb b r hr:=by simp[aV.lend] at hr
 D b hd:=hd.elim
theorem Yl (hE:kX E)(hS:H8 E S.call){f:FuncId}{args:List V}{v:V}(h:xK E S f args=some v):qY E f args v:=by
 unfold xK at h;split at h
 ·rename_i g hg
  exact hE.qV f g hg args v h
 ·simp only[iR] at h
  obtain⟨⟨v0,σ1⟩,hc,h⟩:=h;obtain⟨_,hb,hs⟩:=hS _ _ _ _ _ _ hc;refine⟨hb,fun I IM w bV hl hr=>?_⟩;have hr':RelA (aV.lend I IM) au.init.top w args bV:=hr;refine(hs none w.heap.size (aV.lend I IM) w bV (R9 hl) (RS _) (fun s hs=>hs.elim) hr').mono ?_;intro e w' hp;cases e with
  |returned c=>
   obtain⟨K1,r1,s1,_,st⟩:=hp;refine⟨st.below,?_⟩;have:=Yk (T':=fun _=>0) s1 20 v0 v c r1 h;refine this.Me (fun b o hi=>⟨⟨?_,hi.2⟩,rfl⟩) (fun b hi=>⟨⟨?_,hi.2⟩,rfl⟩)
   ·rcases hi.1 with h1|h1
    ·exact st.qh b o h1
    ·exact .inr h1
   ·rcases hi.1 with h1|h1
    ·exact st.qj b h1
    ·exact .inr h1
  |panicked ch=>exact hp.elim|outgrown=>exact hp.elim
theorem Step.grow (h:bA E B0 σ K w)(hB:B0<=w.heap.size){new:Nat->Prop}(hb:Below w.heap.size w w'):
 Step E B0 new σ K w σ {K with I:=aY.grow K.I w.heap.size w',IM:=wo K.IM w.heap.size w'} w':=by
 have xV:∀b o,K.I b o->w'.cell? (at_ b o)=w.cell? (at_ b o):=fun b o hi=>Ia hb (lt_of_cell (h.I b o hi).1.choose_spec);have y7:∀b,K.IM b->w'.heap[b]? =w.heap[b]? :=fun b hi=>by obtain⟨⟨o,h1,_⟩,_⟩:=h.IM b hi;exact hb.block b (lt_of_heap h1)
 have e:Ext K σ.top w {K with I:=aY.grow K.I w.heap.size w',IM:=wo K.IM w.heap.size w'} σ.top w':=
  ⟨fun _ h=>⟨h,rfl,rfl,rfl⟩,fun _ _=>.inl ⟨rfl,rfl,rfl,rfl⟩,fun b o hi=>⟨⟨.inl hi,by rw[xV b o hi];exact(h.I b o hi).1⟩,xV b o hi⟩,
    fun b hi=>⟨⟨.inl hi,by unfold tX;rw[y7 b hi];exact(h.IM b hi).1⟩,y7 b hi⟩⟩
 refine⟨⟨fun loc s ob hs=>?_,fun s hs hl=>?_,fun b o hi=>⟨hi.2,?_⟩,fun b hi=>⟨hi.2,?_⟩,fun l r hl=>?_,fun g cs hg=>(h.glob g cs hg).ext e,fun b r hr=>?_,fun b hd=>?_⟩,e,
  ⟨hb.kit.mono hB,hb.dr⟩,fun _ h=>h,fun _ h=>.inl h,fun b o hi=>hi.1.imp id ah,fun b hi=>hi.1.imp id ah⟩
 ·obtain⟨a1,a2,a3⟩:=h.obj loc s ob hs
  exact⟨a1,a2.ext e a1 (fun hr=>hb.block _ (h.rb _ _ (a3 hr)).1),a3⟩
 ·obtain⟨a1,a2,a3⟩:=h.own s hs hl
  have hlt:=(h.rb _ _ a2).1;refine⟨a1,a2,fun o h1 h2=>?_⟩;obtain⟨c1,⟨v,c2⟩,c3⟩:=a3 o h1 h2;refine⟨fun hi=>?_,⟨v,(Ia hb hlt).trans c2⟩,?_⟩
  ·rcases hi.1 with h1|h1
   ·exact c1 h1
   ·have:w.heap.size<=K.ob s:=h1
    omega
  ·rw[frozen_of_heap (hb.block _ hlt)];exact c3
 ·intro loc hρ
  rcases hi.1 with h1|h1
  ·exact(h.I b o h1).2 loc hρ
  ·have:=(h.rb _ _ hρ).1;omega
 ·intro loc hρ
  rcases hi.1 with h1|h1
  ·exact(h.IM b h1).2 loc hρ
  ·have:=(h.rb _ _ hρ).1;omega
 ·obtain⟨a1,a2⟩:=h.loop l r hl
  exact⟨a1,a2.ext e a1 (hb.block _ (h.rb _ _ a2.2.1).1) rfl⟩
 ·have:=h.rb b r hr;exact⟨iq this.1 hb.size,this.2⟩
 ·have:=h.D b hd
  rw[hb.block b (lt_of_heap this)];exact this
def aV.o9 (K:aV)(B:Nat)(w':World)(st ob lo hi:Nat):aV:=
 {K with A:=fun x=>K.A x\/x=st,ob:=upd K.ob st ob,lo:=upd K.lo st lo,hi:=upd K.hi st hi,I:=fun b o=>aY.grow K.I B w' b o/\¬(b=ob/\lo<=o/\o<hi),IM:=wo K.IM B w',ρ:=fun b=>if b=ob/\lo<hi then some (.own st) else K.ρ b}
theorem Step.o9 (h:bA E B0 σ K w)(hB:B0<=w.heap.size){st T1:Nat}(hst:¬K.A st)(hb:Below w.heap.size w w'){ob lo hi:Nat}(ho:lo<hi->w.heap.size<=ob/\∀o,lo<=o->o<hi->(∃v,w'.cell? (at_ ob o)=some v)/\w'.frozen? (at_ ob o)=false):
 Step E B0 (· =st) σ K w (σ.dZ st T1) (K.o9 w.heap.size w' st ob lo hi) w':=by
 have xV:∀b o,K.I b o->w'.cell? (at_ b o)=w.cell? (at_ b o):=fun b o hi=>Ia hb (lt_of_cell (h.I b o hi).1.choose_spec);have y7:∀b,K.IM b->w'.heap[b]? =w.heap[b]? :=fun b hi=>by obtain⟨⟨o,h1,_⟩,_⟩:=h.IM b hi;exact hb.block b (lt_of_heap h1)
 have hne:∀x,K.A x->x≠st:=fun x hx e=>hst (e▸hx);have ES:∀b,b<w.heap.size->(K.o9 w.heap.size w' st ob lo hi).ρ b=K.ρ b:=fun b hbl=>by show (if b=ob/\lo<hi then some (yX.own st) else K.ρ b)=K.ρ b;rw[if_neg];rintro⟨rfl,h2⟩;have:=(ho h2).1;omega
 have hold:∀b o,b<w.heap.size->¬(b=ob/\lo<=o/\o<hi):=by rintro b o hbl ⟨rfl,h2,h3⟩;have:=(ho ah).1;omega
 have e:Ext K σ.top w (K.o9 w.heap.size w' st ob lo hi) (σ.dZ st T1).top w':=
  ⟨fun _ h=>⟨.inl h,rfl,rfl,rfl⟩,fun x hx=>.inl ⟨upd_ne _ _ (hne x hx),upd_ne _ _ (hne x hx),upd_ne _ _ (hne x hx),upd_ne _ _ (hne x hx)⟩,
    fun b o hi=>⟨⟨⟨.inl hi,by rw[xV b o hi];exact(h.I b o hi).1⟩,hold b o (lt_of_cell (h.I b o hi).1.choose_spec)⟩,xV b o hi⟩,
    fun b hi=>⟨⟨.inl hi,by unfold tX;rw[y7 b hi];exact(h.IM b hi).1⟩,y7 b hi⟩⟩
 refine⟨⟨fun loc s x hs=>?_,fun s hs hl=>?_,fun b o hq=>⟨hq.1.2,?_⟩,fun b hq=>⟨hq.2,?_⟩,fun l r hl=>?_,fun g cs hg=>(h.glob g cs hg).ext e,fun b r hr=>?_,fun b hd=>?_⟩,e,
  ⟨hb.kit.mono hB,hb.dr⟩,fun _ h=>h,fun _ h=>h,fun b o hi=>hi.1.1.imp id ah,fun b hi=>hi.1.imp id ah⟩
 ·obtain⟨a1,a2,a3⟩:=h.obj loc s x hs
  refine⟨.inl a1,a2.ext e a1 (fun hr=>hb.block _ (h.rb _ _ (a3 hr)).1),fun hr=>?_⟩;show (K.o9 w.heap.size w' st ob lo hi).ρ (K.blk s)=_;rw[ES _ (h.rb _ _ (a3 hr)).1];exact a3 hr
 ·by_cases hxs:s=st
  ·subst hxs
   have q1:(K.o9 w.heap.size w' s ob lo hi).ob s=ob:=upd_same _ _ _;have q2:(K.o9 w.heap.size w' s ob lo hi).lo s=lo:=upd_same _ _ _;have q3:(K.o9 w.heap.size w' s ob lo hi).hi s=hi:=upd_same _ _ _;rw[q2,q3] at hl;obtain⟨o1,o2⟩:=ho hl;refine⟨by rw[q1];omega,?_,fun o h1 h2=>?_⟩
   ·rw[q1]
    show (if ob=ob/\lo<hi then some (yX.own s) else K.ρ ob)=_;rw[if_pos ⟨rfl,hl⟩]
   ·rw[q2] at h1;rw[q3] at h2;rw[q1]
    exact⟨fun hI=>hI.2 ⟨rfl,h1,h2⟩,(o2 o h1 h2).1,(o2 o h1 h2).2⟩
  ·have hA:K.A s:=hs.resolve_right hxs
   have q1:(K.o9 w.heap.size w' st ob lo hi).ob s=K.ob s:=upd_ne _ _ hxs;have q2:(K.o9 w.heap.size w' st ob lo hi).lo s=K.lo s:=upd_ne _ _ hxs;have q3:(K.o9 w.heap.size w' st ob lo hi).hi s=K.hi s:=upd_ne _ _ hxs;rw[q2,q3] at hl;obtain⟨a1,a2,a3⟩:=h.own s hA hl;have hlt:=(h.rb _ _ a2).1;refine⟨by rw[q1];exact a1,by rw[q1,ES _ hlt];exact a2,fun o h1 h2=>?_⟩;rw[q2] at h1;rw[q3] at h2;rw[q1];obtain⟨c1,⟨v,c2⟩,c3⟩:=a3 o h1 h2;refine⟨fun hi=>?_,⟨v,(Ia hb hlt).trans c2⟩,?_⟩
   ·rcases hi.1.1 with h1|h1
    ·exact c1 h1
    ·omega
   ·rw[frozen_of_heap (hb.block _ hlt)];exact c3
 ·intro loc hρ
  have qZ:(if b=ob/\lo<hi then some (yX.own st) else K.ρ b)=some (.obj loc):=hρ;split at qZ
  ·cases qZ
  ·rcases hq.1.1 with h1|h1
   ·exact(h.I b o h1).2 loc qZ
   ·have:=(h.rb _ _ qZ).1;omega
 ·intro loc hρ
  have qZ:(if b=ob/\lo<hi then some (yX.own st) else K.ρ b)=some (.obj loc):=hρ;split at qZ
  ·cases qZ
  ·rcases hq.1 with h1|h1
   ·exact(h.IM b h1).2 loc qZ
   ·have:=(h.rb _ _ qZ).1;omega
 ·obtain⟨a1,a2⟩:=h.loop l r hl
  exact⟨.inl a1,a2.ext e a1 (hb.block _ (h.rb _ _ a2.2.1).1) (ES _ (h.rb _ _ a2.2.1).1)⟩
 ·have hr':(if b=ob/\lo<hi then some (yX.own st) else K.ρ b)=some r:=hr
  split at hr'
  ·rename_i hc
   obtain⟨o1,o2⟩:=ho hc.2;obtain⟨⟨v,hv⟩,_⟩:=o2 lo (RS _) hc.2;rw[hc.1];exact⟨lt_of_cell hv,ah⟩
  ·have:=h.rb b r hr';exact⟨iq this.1 hb.size,this.2⟩
 ·have:=h.D b hd
  rw[hb.block b (lt_of_heap this)];exact this
def aV.ql (K:aV)(B:Nat)(w':World)(st b n:Nat)(loc:Loc)(r:Bool):aV:=
 {K with A:=fun x=>K.A x\/x=st,blk:=upd K.blk st b,sz:=upd K.sz st n,lo:=upd K.lo st 0,hi:=upd K.hi st 0,I:=fun b' o=>aY.grow K.I B w' b' o/\¬(b'=b/\r=true),IM:=wo K.IM B w',ρ:=fun b'=>if b'=b/\r=true then some (.obj loc) else K.ρ b'}
theorem Step.ql (h:bA E B0 σ K w)(hB:B0<=w.heap.size){st b n:Nat}{r:Bool}{ob:jo}{loc:Loc}(hst:¬K.A st)(hb:Below w.heap.size w w')(hr0:ob.real->r=true)(ho:r=true->w.heap.size<=b/\b<w'.heap.size/\¬tX w' b)(gX:EN (K.ql w.heap.size w' st b n loc r) σ.top w' B0 st ob):
 Step E B0 (· =st) σ K w (σ.setObj loc st ob) (K.ql w.heap.size w' st b n loc r) w':=by
 have xV:∀b o,K.I b o->w'.cell? (at_ b o)=w.cell? (at_ b o):=fun b o hi=>Ia hb (lt_of_cell (h.I b o hi).1.choose_spec);have y7:∀b,K.IM b->w'.heap[b]? =w.heap[b]? :=fun b hi=>by obtain⟨⟨o,h1,_⟩,_⟩:=h.IM b hi;exact hb.block b (lt_of_heap h1)
 have hne:∀x,K.A x->x≠st:=fun x hx e=>hst (e▸hx);have ES:∀b',b'<w.heap.size->(K.ql w.heap.size w' st b n loc r).ρ b'=K.ρ b':=fun b' hbl=>by show (if b'=b/\r=true then some (yX.obj loc) else K.ρ b')=K.ρ b';rw[if_neg];rintro⟨rfl,h2⟩;have:=(ho h2).1;omega
 have hold:∀b',b'<w.heap.size->¬(b'=b/\r=true):=by rintro b' hbl ⟨rfl,h2⟩;have:=(ho h2).1;omega
 have e:Ext K σ.top w (K.ql w.heap.size w' st b n loc r) (σ.setObj loc st ob).top w':=
  ⟨fun x hx=>⟨.inl hx,upd_ne _ _ (hne x hx),rfl,upd_ne _ _ (hne x hx)⟩,fun x hx=>.inl ⟨rfl,rfl,upd_ne _ _ (hne x hx),upd_ne _ _ (hne x hx)⟩,
    fun b o hi=>⟨⟨⟨.inl hi,by rw[xV b o hi];exact(h.I b o hi).1⟩,hold b (lt_of_cell (h.I b o hi).1.choose_spec)⟩,xV b o hi⟩,
    fun b hi=>⟨⟨.inl hi,by unfold tX;rw[y7 b hi];exact(h.IM b hi).1⟩,y7 b hi⟩⟩
 refine⟨⟨fun loc' s x hs=>?_,fun s hs hl=>?_,fun b' o hq=>⟨hq.1.2,?_⟩,fun b' hq=>⟨hq.2,?_⟩,fun l r hl=>?_,fun g cs hg=>(h.glob g cs hg).ext e,fun b' r' hr=>?_,fun b' hd=>?_⟩,e,
  ⟨hb.kit.mono hB,hb.dr⟩,fun _ h=>h,fun _ h=>h,fun b o hi=>hi.1.1.imp id ah,fun b hi=>hi.1.imp id ah⟩
 ·by_cases hl:loc'=loc
  ·subst hl
   have hs':upd σ.obj loc' (some (st,ob)) loc'=some (s,x):=hs;rw[upd_same] at hs';cases hs';refine⟨.inr rfl,gX,fun hr=>?_⟩;show (if upd K.blk st b st=b/\r=true then some (yX.obj loc') else K.ρ (upd K.blk st b st))=_;rw[upd_same,if_pos ⟨rfl,hr0 hr⟩]
  ·have hs':upd σ.obj loc (some (st,ob)) loc'=some (s,x):=hs
   rw[upd_ne _ _ hl] at hs';obtain⟨a1,a2,a3⟩:=h.obj loc' s x hs';refine⟨.inl a1,a2.ext e a1 (fun hr=>hb.block _ (h.rb _ _ (a3 hr)).1),fun hr=>?_⟩;have q:(K.ql w.heap.size w' st b n loc r).blk s=K.blk s:=upd_ne _ _ (hne s a1);rw[q,ES _ (h.rb _ _ (a3 hr)).1];exact a3 hr
 ·by_cases hxs:s=st
  ·subst hxs
   have q2:(K.ql w.heap.size w' s b n loc r).lo s=0:=upd_same _ _ _;have q3:(K.ql w.heap.size w' s b n loc r).hi s=0:=upd_same _ _ _;rw[q2,q3] at hl;exact absurd hl (Nat.lt_irrefl _)
  ·have hA:K.A s:=hs.resolve_right hxs
   have q2:(K.ql w.heap.size w' st b n loc r).lo s=K.lo s:=upd_ne _ _ hxs;have q3:(K.ql w.heap.size w' st b n loc r).hi s=K.hi s:=upd_ne _ _ hxs;rw[q2,q3] at hl;obtain⟨a1,a2,a3⟩:=h.own s hA hl;have hlt:=(h.rb _ _ a2).1;refine⟨a1,(ES _ hlt).trans a2,fun o h1 h2=>?_⟩;rw[q2] at h1;rw[q3] at h2;obtain⟨c1,⟨v,c2⟩,c3⟩:=a3 o h1 h2;refine⟨fun hi=>?_,⟨v,(Ia hb hlt).trans c2⟩,?_⟩
   ·rcases hi.1.1 with h1|h1
    ·exact c1 h1
    ·have:w.heap.size<=K.ob s:=h1
     omega
   ·exact(frozen_of_heap (hb.block _ hlt)).trans c3
 ·intro loc' hρ
  have qZ:(if b'=b/\r=true then some (yX.obj loc) else K.ρ b')=some (.obj loc'):=hρ;split at qZ
  ·rename_i hc;exact hq.2 hc
  ·rcases hq.1.1 with h1|h1
   ·exact(h.I b' o h1).2 loc' qZ
   ·have:=(h.rb _ _ qZ).1;omega
 ·intro loc' hρ
  have qZ:(if b'=b/\r=true then some (yX.obj loc) else K.ρ b')=some (.obj loc'):=hρ;split at qZ
  ·rename_i hc
   rw[hc.1] at hq;exact(ho hc.2).2.2 hq.2
  ·rcases hq.1 with h1|h1
   ·exact(h.IM b' h1).2 loc' qZ
   ·have:=(h.rb _ _ qZ).1;omega
 ·obtain⟨a1,a2⟩:=h.loop l r hl
  exact⟨.inl a1,a2.ext e a1 (hb.block _ (h.rb _ _ a2.2.1).1) (ES _ (h.rb _ _ a2.2.1).1)⟩
 ·have hr':(if b'=b/\r=true then some (yX.obj loc) else K.ρ b')=some r':=hr
  split at hr'
  ·rename_i hc
   obtain⟨o1,o2,_⟩:=ho hc.2;rw[hc.1];exact⟨o2,ah⟩
  ·have:=h.rb b' r' hr';exact⟨iq this.1 hb.size,this.2⟩
 ·have:=h.D b' hd
  rw[hb.block b' (lt_of_heap this)];exact this
end
section
variable {E:Env}{S:l5}{K K':aV}{w w':World}{σ σ':au}{B0:Nat}
theorem Ym (w:World)(b:Nat)(o:Obj):Only b w (w.putObj b o):=⟨rfl,rfl,rfl,aC,fun _ hk _=>World.putObj_heap_other hk,RS _⟩
theorem Step.iY (h:bA E B0 σ K w)(hB:B0<=w.heap.size){new:Nat->Prop}{l:Nat}{r r':rV}(hl:σ.loops l=some r)(h1:r'.fr=r.fr)(h2:r'.ps=r.ps)(h3:r'.fQ=r.fQ)(h4:r'.body=r.body){rec:Go.Loop}(hr:w.heap[K.lp l]? =some (.loop rec)):
 Step E B0 new σ K w (σ.iY l r') K (w.putObj (K.lp l) (.loop {rec with state:=uV r'.st,pending:=r'.pend.bind wh})):=by
 obtain⟨hA,hb0,hρ,fn,tmps,D,hh,hf,hok⟩:=h.loop l r hl;have hrec:rec={state:=uV r.st,pending:=r.pend.bind wh,fn:=fn,tmps:=tmps,params:=r.ps.toArray,assign:=r.fQ,body:=r.body,defers:=D}:=by rw[hh] at hr;simpa using hr.symm
 have hlt:=lt_of_heap hr;have ho:=Ym w (K.lp l) (.loop {rec with state:=uV r'.st,pending:=r'.pend.bind wh});have hnew:(w.putObj (K.lp l) (.loop {rec with state:=uV r'.st,pending:=r'.pend.bind wh})).heap[K.lp l]? =some (.loop {rec with state:=uV r'.st,pending:=r'.pend.bind wh}):=World.putObj_heap_same hlt;have hcell:∀b o v,w.cell? (at_ b o)=some v->b≠K.lp l:=fun b o v hv e=>by subst e;simp[World.cell?,hr] at hv
 have e:Ext K σ.top w K σ.top (w.putObj (K.lp l) (.loop {rec with state:=uV r'.st,pending:=r'.pend.bind wh})):=by
  refine⟨fun _ h=>⟨h,rfl,rfl,rfl⟩,fun _ _=>.inl ⟨rfl,rfl,rfl,rfl⟩,fun b o hi=>⟨hi,?_⟩,fun b hi=>⟨hi,?_⟩⟩
  ·obtain⟨⟨v,hv⟩,_⟩:=h.I b o hi
   exact cell_of_heap (ho.block b (hcell b o v hv) (lt_of_cell hv))
  ·obtain⟨⟨_,hv,hml⟩,_⟩:=h.IM b hi
   exact ho.block b (RL hv hml hr (fun e=>e)) (lt_of_heap hv)
 refine⟨?_,e,ho.below hb0 hB,fun _ h=>h,fun _ h=>.inl h,fun _ _ h=>.inl h,fun _ h=>.inl h⟩;refine h.upd (σ':=σ.iY l r') ho e (fun _ _=>rfl) (fun r hr'=>⟨by simpa using hlt,hb0⟩) ?_ ?_ ?_ ?_ ?_ ?_
 ·intro loc s ob hs
  refine .inl ⟨hs,fun l7=>?_⟩;intro e';have:=(h.obj loc s ob hs).2.2 l7;rw[e',hρ] at this;cases this
 ·intro s hs hlt'
  refine .inl ⟨hs,rfl,rfl,rfl,fun e'=>?_⟩;have:=(h.own s hs hlt').2.1;rw[e',hρ] at this;cases this
 ·intro b' o hi
  obtain⟨⟨v,hv⟩,_⟩:=h.I b' o hi;exact .inl ⟨hi,hcell b' o v hv⟩
 ·intro b' hi
  obtain⟨⟨_,hv,hml⟩,_⟩:=h.IM b' hi;exact .inl ⟨hi,RL hv hml hr (fun e=>e)⟩
 ·intro l' r1 hl'
  by_cases hll:l'=l
  ·subst hll
   right;have hr1:r'=r1:=by simpa [au.iY,upd] using hl'
   subst hr1;refine⟨hA,hb0,hρ,fn,tmps,D,?_,?_,?_⟩
   ·rw[hnew,hrec,h2,h3,h4]
   ·rw[h1];exact hf.ext e
   ·rw[h2,h3,h4];exact hok
  ·left
   have hl1:σ.loops l'=some r1:=by simpa [au.iY,upd,hll] using hl'
   refine⟨hl1,fun e'=>?_⟩;have:=(h.loop l' r1 hl1).2.2.1;rw[e',hρ] at this;cases this;exact hll rfl
 ·intro b' hd
  exact .inl ⟨hd,xQ (h.D b' hd) hr aC⟩
theorem anf {T:Nat->Nat}:∀(ps:List Nat)(args:List V)(cs:List Value)(fr:Fr)(tmps:Array Value),ps.length=args.length->args.length=cs.length->kF K T w fr tmps->(∀i,i<args.length->Rel K T w (args.getD i aK) (cs.getD i undef))->(∀p∈ps,p<tmps.size)->kF K T w {fr with tm:=(ps.zip args).foldl (fun tm (p,a)=>upd tm p a) fr.tm} ((ps.zip cs).foldl (fun tmps (t,a)=>tmps.setIfInBounds t a) tmps)/\
   ((ps.zip cs).foldl (fun tmps (t,a)=>tmps.setIfInBounds t a) tmps).size=tmps.size:=by
 intro ps;induction ps with
 |nil=>intro args cs fr tmps _ _ hf _ _;exact⟨hf,rfl⟩|cons p ps ih=>
  intro args cs fr tmps hl hl2 hf hr hp;cases args with
  |nil=>simp at hl|cons a args=>
   cases cs with
   |nil=>simp at hl2|cons c cs=>have hput:=kF.put (K:=K) (w:=w) (T:=T) (a:={tmps:=tmps,defers:=[]}) hf (d:=some p) (v:=a) (c:=c) (hr 0 aC) (fun i hi=>by cases hi;exact hp p aC);have:=ih args cs (fr.set p a) (tmps.setIfInBounds p c) yN (by simpa using hl2) hput (fun i hi=>hr (i+1) jI) (fun q hq=>by simpa using hp q (by simp[hq]));refine⟨this.1,this.2.trans aC⟩
theorem zip_toArray (ps:List Nat)(cs tmps:Array Value):(ps.toArray.zip cs).foldl (fun tmps (t,a)=>tmps.setIfInBounds t a) tmps=(ps.zip cs.toList).foldl (fun tmps (t,a)=>tmps.setIfInBounds t a) tmps:=by
 rw[<-Array.foldl_toList];congr 1;simp
theorem ang (hS:Ma E S.code)(h:bA E B0 σ K w)(hB:B0<=w.heap.size)(hA:∀s,K.A s->s<σ.next){l:Nat}{args:List V}{bV:Array Value}{v:V}(hv:yT S l args σ=some (v,σ'))(ra:RelA K σ.top w args bV):
 σ.next<=σ'.next/\∃fn tmps fQ body,(Instr.yield (K.lp l) bV).run E.P w= .ok (.round (K.lp l) fn tmps fQ body) w/\RoundIn Fence.wide 0 E.P (K.lp l) fn tmps fQ body w (Ao E B0 σ K w v σ'):=by
 unfold yT at hv;simp only[iR] at hv;obtain⟨r,hl,hv⟩:=hv;split at hv
 ·rename_i hst
  simp only[iR] at hv;obtain⟨⟨e1,bT,σ1⟩,Mf,hv⟩:=hv;cases e1 with
  |normal=>
   simp only[iR] at hv;obtain⟨r1,hl1,hv⟩:=hv;split at hv
   ·rename_i Dh
    simp only[iR] at hv;obtain⟨⟨e2,fT,σ2⟩,hbody,r2,hl2,hv⟩:=hv;split at hv
    ·rename_i aBj
     obtain⟨anh,hb0,hρ,fn,tmps,D,hh,hf,hok1,hok2,hps,hn1,hn2⟩:=h.loop l r hl;obtain⟨hle1,hw1⟩:=hS _ _ _ _ _ _ Mf;obtain⟨hle2,hw2⟩:=hS _ _ _ _ _ _ hbody;have ani:σ1.next<=σ2.next:=hle2;have hnext:σ'.next=σ2.next:=by
      cases e2<;>simp only[iE,aP] at hv<;>obtain⟨_,rfl⟩:=hv<;>rfl
     refine⟨ah,?_⟩;have hsz:bV.size=r.ps.length:=(by have:=ra.1;omega);have Yn:=run_yield (P:=E.P) (args:=bV) hh (by simpa using hsz);refine⟨_,_,_,_,Yn,?_⟩;dsimp only;rw[zip_toArray];have Yo:=anf (K:=K) (w:=w) (T:=σ.top) r.ps args bV.toList r.fr tmps hst.2 (by have:=ra.1;simpa using this) hf (fun i hi=>by rw[RX];exact ra.2 i hi) hps;generalize aBk:(r.ps.zip bV.toList).foldl (fun tmps (t,a)=>tmps.setIfInBounds t a) tmps=anj at Yo;refine roundIn_of_wpIn trivial ?_;have hs0:St E B0 σ K w {r.fr with tm:=(r.ps.zip args).foldl (fun tm (p,a)=>upd tm p a) r.fr.tm} {tmps:=anj,defers:=[]} tmps.size ⟨[],0,true⟩:=
      ⟨h,hB,Yo.1,Yo.2,⟨[],rfl,List.nodup_nil,(fun b hb=>by cases hb),fun _=>rfl⟩,hA,kN _⟩
     refine wpIn_mono (hw1 (some (K.lp l)) B0 K w _ tmps.size ⟨[],0,true⟩ hs0 hok1 (.inr hn1)) ?_;rintro x a1 w1 ⟨hx,K1,hs1,st1⟩;cases x<;>simp only[lM] at hx;obtain⟨ank,hb1,aBl,aeD,aeE,D1,aeF,hf1,_⟩:=hs1.ok.loop l r1 hl1;have Ib:K1.lp l=K.lp l:=(st1.ext.A l anh).2.2.1;have hbr:=run_beginRound (P:=E.P) aeF (by simp[uV,Dh]);have Sb:=Step.iY (new:=newer σ1 (σ1.iY l {r1 with st:=1})) hs1.ok hs1.hB (r':={r1 with st:=1}) hl1 rfl rfl rfl rfl aeF;rw[Ib] at hbr;refine⟨_,hbr,?_⟩;have anl:(w1.putObj (K.lp l) (.loop {state:=LoopState.busy,pending:=r1.pend.bind wh,fn:=aeD,tmps:=aeE,params:=r1.ps.toArray,assign:=r1.fQ,body:=r1.body,defers:=D1}))=
      (w1.putObj (K1.lp l) (.loop {({state:=uV r1.st,pending:=r1.pend.bind wh,fn:=aeD,tmps:=aeE,params:=r1.ps.toArray,assign:=r1.fQ,body:=r1.body,defers:=D1}:Go.Loop) with state:=uV 1,pending:=r1.pend.bind wh})):=by
      rw[Ib];rfl
     dsimp only;rw[anl];have anm:St E B0 (σ1.iY l {r1 with st:=1}) K1 _ bT a1 tmps.size ⟨[],0,true⟩:=
      ⟨Sb.ok,bZ hs1.hB Sb.below.size,hs1.fr.ext Sb.ext,hs1.sz,hs1.df,hs1.st,kN _⟩
     have st01:=Step.trans (new:=newer σ σ1) st1 (Sb.mono (fun s hs=>by have h1:σ1.next<=s:=hs.1;have h2:s<σ1.next:=hs.2;omega));refine wpIn_mono (hw2 (some (K.lp l)) B0 K1 _ a1 tmps.size ⟨[],0,true⟩ anm hok2 (.inr hn2)) ?_;rintro x a2 w2 ⟨hx2,K2,hs2,st2⟩;obtain⟨aBm,hb2,aBn,ano,anp,D2,aeG,hf2,_⟩:=hs2.ok.loop l r2 hl2;have Sc:K2.lp l=K.lp l:=((st2.ext.A l ank).2.2.1).trans Ib;have uZ:Step E B0 (newer σ σ2) σ K w σ2 K2 w2:=by
      refine(st01.mono ?_).trans (st2.mono ?_)
      ·intro s hs;exact⟨hs.1,iq hs.2 ani⟩
      ·intro s hs;exact⟨bZ hle1 hs.1,hs.2⟩
     have fin:∀(r':rV)(b:Bool),r'.fr=r2.fr->r'.ps=r2.ps->r'.fQ=r2.fQ->r'.body=r2.body->σ'=σ2.iY l r'->v= .bool b->
      Ao E B0 σ K w v σ' (.returned (.bool b)) (w2.putObj (K2.lp l) (.loop {({state:=uV r2.st,pending:=r2.pend.bind wh,fn:=ano,tmps:=anp,params:=r2.ps.toArray,assign:=r2.fQ,body:=r2.body,defers:=D2}:Go.Loop) with state:=uV r'.st,pending:=r'.pend.bind wh})):=by
      intro r' b h1 h2 h3 h4 h5 h6;have anq:=Step.iY (new:=newer σ σ2) hs2.ok hs2.hB (r':=r') hl2 h1 h2 h3 h4 aeG;subst h5 h6;have Di:=uZ.trans anq;exact⟨K2,.bool b,Di.ok,hs2.st,Di⟩
     have hend:=fun jump=>run_endRound (P:=E.P) jump aeG;rw[Sc] at hend;cases e2 with
     |normal=>
      cases x<;>simp only[lM] at hx2;simp only[iE,aP] at hv;refine⟨_,_,hend none,?_⟩;have:=fin {r2 with st:=0,pend:=none} true rfl rfl rfl rfl hv.2.symm hv.1.symm;rw[Sc] at this;exact this
     |exit i=>
      cases x<;>simp only[lM] at hx2;subst hx2;simp only[iE,aP] at hv;refine⟨_,_,hend (some (.exit i)),?_⟩;have:=fin {r2 with st:=2,pend:=some (.exit i)} false rfl rfl rfl rfl hv.2.symm hv.1.symm;rw[Sc] at this;exact this
     |ret=>
      cases x<;>simp only[lM] at hx2;simp only[iE,aP] at hv;refine⟨_,_,hend (some .ret),?_⟩;have:=fin {r2 with st:=2,pend:=some .ret} false rfl rfl rfl rfl hv.2.symm hv.1.symm;rw[Sc] at this;exact this
    ·simp at hv
   ·simp at hv
  |exit i=>simp at hv|ret=>simp at hv
 ·simp at hv
theorem anr (hS:Ma E S.code){l:Nat}{args:List V}{v:V}(hv:yT S l args σ=some (v,σ')):σ.next<=σ'.next:=by
 unfold yT at hv;simp only[iR] at hv;obtain⟨r,hl,hv⟩:=hv;split at hv
 ·simp only[iR] at hv
  obtain⟨⟨e1,bT,σ1⟩,Mf,hv⟩:=hv;cases e1 with
  |normal=>
   simp only[iR] at hv;obtain⟨r1,hl1,hv⟩:=hv;split at hv
   ·simp only[iR] at hv
    obtain⟨⟨e2,fT,σ2⟩,hbody,r2,hl2,hv⟩:=hv;split at hv
    ·have h1:=(hS _ _ _ _ _ _ Mf).1
     have h2:σ1.next<=σ2.next:=(hS _ _ _ _ _ _ hbody).1;have h3:σ'.next=σ2.next:=by
      cases e2<;>simp only[iE,aP] at hv<;>obtain⟨_,rfl⟩:=hv<;>rfl
     omega
    ·simp at hv
   ·simp at hv
  |exit i=>simp at hv|ret=>simp at hv
 ·simp at hv
end
end aY
end
