/- Part of the proof of a law. -/
import Derived.ControlIn
import Derived.RangeFuncLeaves
import Derived.RangeFuncRecord
import Derived.Scope
import Derived.Test.YtdcnajadcbedkaaGreatDoorS1202
set_option linter.all false
section
namespace Aq
open Go Go.RowKit
section
variable {E:Env} {B0:Nat} {σ:ah} {K:aP} {w:World} {new:Nat->Prop} {T:Nat->Nat}
def rD (E:Env) (B0:Nat) (new:Nat->Prop) (σ:ah) (K:aP) (w:World) (s:Sem Next) (v:V) (σ':ah):Prop:=
 ∃nx c w' K',s.run E.P w= .ok nx w'/\(nx= .value c\/(nx= .skip/\c=undef))/\Rel K' σ'.top w' v c/\Step E B0 new σ K w σ' K' w'
theorem rD.rE {s:Sem Value} {v:V} {σ':ah} (h:Done E B0 new σ K w s v σ'):rD E B0 new σ K w (do pure (.value (<-s))) v σ':=by
 obtain⟨c,w',K',h1,h2,h3⟩:=h
 exact⟨.value c,c,w',K',by simp[h1],.inl rfl,h2,h3⟩
theorem rD.fD (h:aV E B0 σ K w) {s:Sem Value} {v:V} (hs:∃c,s.run E.P w= .ok c w/\Rel K σ.top w v c):rD E B0 new σ K w (do pure (.value (<-s))) v σ:=
 .rE (.fD h hs)
theorem rD.QD {s:Sem Unit} {σ':ah} {K':aP} {w':World} (h:s.run E.P w= .ok () w') (hs:Step E B0 new σ K w σ' K' w'):rD E B0 new σ K w (do s;pure .skip) aC σ':=
 ⟨.skip,undef,w',K',by simp[h],.inr ⟨rfl,rfl⟩,.undef _ _ _,hs⟩
theorem BD {fr:Fr} {a:Act} (h:aV E B0 σ K w) (hf:kg K σ.top w fr a.tmps) (xs:Array Operand):
 (xs.toList.map (fr.ev E)).length=(xs.map a.eval).size/\∀i,i< (xs.toList.map (fr.ev E)).length->Rel K σ.top w ((xs.toList.map (fr.ev E)).getD i aC) ((xs.map a.eval).getD i undef):=by
 refine⟨by simp,fun i hi=> ?_⟩
 have hi':i<xs.size:=by simpa using hi
 have e1:(xs.toList.map (fr.ev E)).getD i aC=fr.ev E xs[i]:=by simp[List.getD,hi']
 have e2:(xs.map a.eval).getD i undef=a.eval xs[i]:=by simp[Array.getD,hi']
 rw[e1,e2]
 exact wW h hf _
theorem WB {v:V} {c:Value} {b:Bool} (hr:Rel K T w v c) (h:oh v=some b):c= .bool b:=by
 cases v<;>simp only[oh,reduceCtorEq,iE] at h
 subst h
 cases hr;rfl
theorem WC (h:aV E B0 σ K w) (hB:B0<=w.heap.size) {st:Nat} (hst:¬K.A st) (loc:Loc) (t:TypeId) {x:V} {cx:Value} (hx:Rel K σ.top w x cx) (hraw:dJ x=true):
 Done E B0 (· =st) σ K w (do pure (.pointer (some (<-newVar t cx)))) (.ref loc st 0) (σ.setObj loc st (.cells x.cells)):=by
 obtain⟨h1,h2⟩:=wX hx hraw
 have hstep:=Step.Kc h hB hst loc (.cells x.cells) (.cells cx.cells t) cx.cells.size (fun K' e' _ hb' hs'=>
  ⟨fun h0=>by rw[hs',<-h1,h0];rfl,fun _=>⟨by rw[hb'];exact hB,_,t,by rw[hb'];exact heap_alloc_new w _,hs'.symm,by rw[h1];exact RS _,fun i hi=>(h2 i hi).ext e'⟩⟩)
 refine⟨.pointer (some (at_ w.heap.size 0)),_,_,by simp[newVar,newRow], ?_,hstep⟩
 have key:Rel (K.ko st w.heap.size cx.cells.size loc) (σ.setObj loc st (.cells x.cells)).top (w.alloc (.cells cx.cells t)) (.ref loc st 0) (.pointer (some (at_ ((K.ko st w.heap.size cx.cells.size loc).blk st) 0))):=.ref loc st 0 (Or.inr rfl)
 have hblk:(K.ko st w.heap.size cx.cells.size loc).blk st=w.heap.size:=upd_same _ _ _
 rw[hblk] at key
 exact key
theorem aex (h:aV E B0 σ K w) (hB:B0<=w.heap.size) {st:Nat} (t:TypeId) {x:V} {cx:Value} (hx:Rel K σ.top w x cx) (hraw:dJ x=true):
 Done E B0 (· =st) σ K w (do pure (.pointer (some (<-newVar t cx)))) (.aK x.cells 0) σ:=by
 obtain⟨h1,h2⟩:=wX hx hraw
 have hst:=Step.VH (new:=(· =st)) h hB cx.cells t (0,0)
 refine⟨.pointer (some (at_ w.heap.size 0)),_,_,by simp[newVar,newRow], ?_,hst⟩
 have hcell:∀j,j<cx.cells.size->(w.alloc (.cells cx.cells t)).cell? (at_ w.heap.size (0+j))=some (cx.cells.getD j undef):=fun j hj=>by
  rw[ae5];exact Fa hj
 exact .aK x.cells 0 w.heap.size 0 (fun j=>cx.cells.getD j undef) (fun j hj=>⟨hcell j (by omega),.inr ⟨rfl,by omega⟩⟩) (fun j hj=>(h2 j hj).ext hst.ext)
theorem aey (h:aV E B0 σ K w) (hB:B0<=w.heap.size) {st:Nat} (hst:¬K.A st) (loc:Loc) (t:TypeId):
 Done E B0 (· =st) σ K w (Instr.makeMap t none) (.bP loc st) (σ.setObj loc st (.map [] [])):=by
 have hstep:=Step.Kc h hB hst loc (.map [] []) (.map #[] 0) 0 (fun K' e' _ hb' hs'=>
  ⟨by rw[hb'];exact hB, #[],0,by rw[hb'];exact heap_alloc_new w _,rfl,rfl,fun i hi=>absurd hi (aat i),fun i hi=>absurd hi (aat i)⟩)
 refine⟨.map (some w.heap.size),_,_,by simp[Instr.makeMap], ?_,hstep⟩
 have key:Rel (K.ko st w.heap.size 0 loc) (σ.setObj loc st (.map [] [])).top (w.alloc (.map #[] 0)) (.bP loc st) (.map (some ((K.ko st w.heap.size 0 loc).blk st))):=.bP loc st (Or.inr rfl)
 have hblk:(K.ko st w.heap.size 0 loc).blk st=w.heap.size:=upd_same _ _ _
 rw[hblk] at key
 exact key
def aP.freeze (K:aP) (b n:Nat):aP:={K with I:=fun b' o=>K.I b' o\/(b'=b/\o<n),ρ:=upd K.ρ b none}
theorem WE (K:aP) (T:Nat->Nat) (w:World) (b n:Nat):Ext K T w (K.freeze b n) T w:=
 ⟨fun _ h=>⟨h,rfl,rfl,rfl⟩,fun _ _=>.inl ⟨rfl,rfl,rfl,rfl⟩,fun _ _ h=>⟨.inl h,rfl⟩,fun _ h=>⟨h,rfl⟩⟩
theorem Step.freeze (h:aV E B0 σ K w) {loc:Loc} {s:Nat} {cs:List V} (hs:σ.obj loc=some (s,.cells cs)) (hne:cs≠[]) {n:Nat} (hn:∀i,i<n->∃v,w.cell? (at_ (K.blk s) i)=some v):
 Step E B0 new σ K w (σ.iq loc) (K.freeze (K.blk s) n) w:=by
 obtain⟨a1,a2,a3⟩:=h.obj loc s _ hs
 obtain⟨b1,_⟩:=a2.2 hne
 have hρ:K.ρ (K.blk s)=some (.obj loc):=a3 (by cases cs with|nil=>exact absurd rfl hne|cons _ _=>trivial)
 have e:=WE K σ.top w (K.blk s) n
 have hne':∀b r,K.ρ b=some r->r≠ .obj loc->b≠K.blk s:=fun b r h1 h2 e=>by
  rw[e,hρ] at h1
  exact h2 (adG h1).symm
 refine⟨⟨fun loc' s' ob hs'=> ?_,fun s' hA hlt=> ?_,fun b o hi=> ?_,fun b hi=> ?_,fun l r hl=> ?_,fun g cs hg=>(h.glob g cs hg).ext e,fun b r hr=> ?_,h.D⟩,e,.refl _ _,fun _ h=>h,fun _ h=>.inl h,fun b o hi=> ?_,fun _ h=>.inl h⟩
 ·by_cases hl:loc'=loc
  ·subst hl;simp[ah.iq,upd_same] at hs'
  ·simp only[ah.iq,upd_ne _ _ hl] at hs'
   obtain⟨g1,g2,g3⟩:=h.obj loc' s' ob hs'
   refine⟨g1,g2.ext e g1 (fun _=>rfl),fun hr=> ?_⟩
   have h1:=g3 hr
   have h2:K.blk s'≠K.blk s:=hne' _ _ h1 (fun e=>hl (by cases e;rfl))
   show upd K.ρ (K.blk s) none (K.blk s')=_
   rw[upd_ne _ _ h2];exact h1
 ·obtain⟨g1,g2,g3⟩:=h.own s' hA hlt
  have h2:K.ob s'≠K.blk s:=hne' _ _ g2 (fun e=>by cases e)
  refine⟨g1, ?_,fun o h3 h4=> ?_⟩
  ·show upd K.ρ (K.blk s) none (K.ob s')=_
   rw[upd_ne _ _ h2];exact g2
  ·obtain⟨c1,c2,c3⟩:=g3 o h3 h4
   exact⟨fun hi=>hi.elim c1 (fun hi=>h2 hi.1),c2,c3⟩
 ·have hk:∀loc',(K.freeze (K.blk s) n).ρ b≠some (.obj loc')\/K.ρ b=some (.obj loc'):=fun loc'=>by
   by_cases hb:b=K.blk s
   ·left;show upd K.ρ (K.blk s) none b≠_
    rw[hb,upd_same];simp
   ·by_cases hq:K.ρ b=some (.obj loc')
    ·exact .inr hq
    ·left;show upd K.ρ (K.blk s) none b≠_
     rw[upd_ne _ _ hb];exact hq
  rcases hi with hi| ⟨rfl,hi⟩
  ·obtain⟨g1,g2⟩:=h.I b o hi
   exact⟨g1,fun loc'=>(hk loc').resolve_right (g2 loc')⟩
  ·refine⟨hn o hi,fun loc'=> ?_⟩
   show upd K.ρ (K.blk s) none (K.blk s)≠_
   rw[upd_same];simp
 ·obtain⟨g1,g2⟩:=h.IM b hi
  refine⟨g1,fun loc'=> ?_⟩
  show upd K.ρ (K.blk s) none b≠_
  by_cases hb:b=K.blk s
  ·rw[hb,upd_same];simp
  ·rw[upd_ne _ _ hb];exact g2 loc'
 ·obtain⟨g1,g2⟩:=h.loop l r hl
  have h2:K.lp l≠K.blk s:=hne' _ _ g2.2.1 (fun e=>by cases e)
  exact⟨g1,g2.ext e g1 rfl (upd_ne _ _ h2)⟩
 ·have hr':upd K.ρ (K.blk s) none b=some r:=hr
  by_cases hb:b=K.blk s
  ·rw[hb,upd_same] at hr';cases hr'
  ·rw[upd_ne _ _ hb] at hr';exact h.rb b r hr'
 ·rcases hi with hi| ⟨rfl,_⟩
  ·exact .inl hi
  ·exact .inr b1
theorem aez (h:aV E B0 σ K w) {x v:V} {c:Value} {σ':ah} (hr:Rel K σ.top w x c) (hv:sM σ x=some (v,σ')):∃K',Rel K' σ'.top w v c/\Step E B0 new σ K w σ' K' w:=by
 unfold sM at hv
 split at hv
 ·rename_i loc s off len cap aS ag
  simp only[iR] at hv
  obtain⟨cs,hcs,hv⟩:=hv
  split at hv
  ·rename_i hc
   obtain⟨hlen,hag⟩:=hc
   simp only[iE,mF] at hv
   obtain⟨rfl,rfl⟩:=hv
   have Fx:ag=false->aS=1:=fun e=>by simp[e] at hag;exact hag.1
   have Fy:ag=false->bC (((cs.drop off).take (len*aS)).map eP)=true:=fun e=>by simp only[e,Bool.false_or,aan] at hag;exact hag.2
   cases hr with
   |kZ _ _ _ _ hA=>
    exact⟨K,.dP .sh none (fun _=>rfl) trivial,.iq h loc⟩
   |vw _ _ _ _ _ _ _ dD hA hcp hle hsz=>
    by_cases hne:cs=[]
    ·subst hne
     have h0:len*aS=0:=by simp at hlen;omega
     refine⟨K, ?_,.iq h loc⟩
     exact Br (w:=w) (val:=fun _=>undef) Fx (by rw[h0];exact ael _) Fy (fun j hj=>by omega) (fun j hj=>by omega) (by omega) trivial
    ·obtain⟨g1,_,_⟩:=h.rz hcs
     obtain⟨a1,a2,a3⟩:=h.obj _ _ _ g1
     obtain⟨b1,vals,t,b2,b3,b4,b5⟩:=a2.2 hne
     have e6:∀i,i<vals.size->w.cell? (at_ (K.blk s) i)=some (vals.getD i undef):=fun i hi=>by simp[World.cell?,b2,Array.getD,hi]
     refine⟨K.freeze (K.blk s) vals.size, ?_,.freeze h g1 hne (fun i hi=>⟨_,e6 i hi⟩)⟩
     have hl':((cs.drop off).take (len*aS)).length=len*aS:=by simp;omega
     refine Br (w:=w) (val:=fun i=>vals.getD (off+i) undef) Fx (by simp;omega) Fy (fun j hj=>⟨e6 _ (by omega),.inr ⟨rfl,by omega⟩⟩) (fun j hj=> ?_) (by omega) trivial
     have hj':j< ((cs.drop off).take (len*aS)).length:=by omega
     have e1:(((cs.drop off).take (len*aS)).map eP).getD j aC=eP (cs.getD (off+j) aC):=by
      rw[<-pF,<-nN (cs.drop off) hj,iD (by simpa using hj'),iD hj'];simp
     rw[e1]
     exact(Bw (b5 _ (by omega))).ext (WE _ _ _ _ _)
  ·simp at hv
 ·rename_i cc l
  simp only[iE,mF] at hv
  obtain⟨rfl,rfl⟩:=hv
  exact⟨K,Bw hr,.refl h⟩
 ·simp only[iE,mF] at hv
  obtain⟨rfl,rfl⟩:=hv
  exact⟨K,hr,.refl h⟩
theorem aeA (h:aV E B0 σ K w) (hB:B0<=w.heap.size) {fr:Fr} {a:Act} (hf:kg K σ.top w fr a.tmps) {st:Nat} (hst:¬K.A st) {o:Oper} {v:V} {σ':ah} (hv:bg E fr σ st o=some (v,σ')):
 rD E B0 (· =st) σ K w (execOp a.eval o) v σ':=by
 have ev:=fun x=>wW h hf x
 unfold bg at hv
 unfold execOp
 split at hv
 ·rename_i x hop
  split at hv
  ·obtain⟨K',r1,r2⟩:=aez (new:=(· =st)) h (ev x) hv
   simp only[hop]
   exact⟨.value (a.eval x),a.eval x,w,K',rfl,.inl rfl,r1,r2⟩
  simp only[iE,mF] at hv
  obtain⟨rfl,rfl⟩:=hv
  simp only[hop]
  exact⟨.value (a.eval x),a.eval x,w,K,rfl,.inl rfl,ev x,.refl h⟩
 ·rename_i x hop
  simp only[iE,mF] at hv
  obtain⟨rfl,rfl⟩:=hv
  simp only[hop]
  exact⟨.value (a.eval x),a.eval x,w,K,rfl,.inl rfl,ev x,.refl h⟩
 ·rename_i c x y hop
  simp only[aao,mF] at hv
  obtain⟨b,hb,rfl,rfl⟩:=hv
  simp only[hop]
  have hc:=WB (ev c) hb
  refine⟨.value (if b then a.eval x else a.eval y),_,w,K,by simp[asBool,hc],.inl rfl, ?_,.refl h⟩
  cases b
  ·exact ev y
  ·exact ev x
 ·rename_i t hop
  simp only[iR] at hv
  obtain⟨loc,_,z,hz,hv⟩:=hv
  split at hv
  ·simp only[iE,mF] at hv
   obtain⟨rfl,rfl⟩:=hv
   simp only[hop]
   obtain⟨cz,hz1,hz2⟩:=Fb w hz
   obtain⟨c,w',K',r1,r2,r3⟩:=WC h hB hst loc t (hz2 K σ.top) (Fe hz)
   refine .rE ⟨c,w',K', ?_,r2,r3⟩
   simp only[Instr.alloc,Sem.run_bind,hz1,Result.andThen_ok]
   exact r1
  ·simp at hv
 ·rename_i t x hop
  split at hv
  ·split at hv
   ·rename_i hc
    simp only[iE,mF] at hv
    obtain⟨rfl,rfl⟩:=hv
    simp only[hop]
    exact .rE (aex h hB t (ev x) hc.2)
   ·simp at hv
  simp only[iR] at hv
  obtain⟨loc,_,hv⟩:=hv
  split at hv
  ·rename_i hc
   simp only[iE,mF] at hv
   obtain⟨rfl,rfl⟩:=hv
   simp only[hop]
   exact .rE (WC h hB hst loc t (ev x) hc.2)
  ·simp at hv
 ·rename_i t parts hop
  simp only[iR,aao,mF] at hv
  obtain⟨pl,hpl,z,hz,cs,hcs,rfl,rfl⟩:=hv
  simp only[hop]
  refine .fD h (ad6 hpl hz ?_ (Fe hz) hcs)
  rw[Array.toList_map]
  exact Qt h hf _
 ·rename_i t len parts hop
  simp only[aao,mF] at hv
  obtain⟨v',hv',rfl,rfl⟩:=hv
  simp only[hop]
  refine .rE (ad8 h hB ?_ hv')
  rw[Array.toList_map]
  exact Qt h hf _
 ·rename_i t x hop
  simp only[hop]
  have hx:=ev x
  generalize fr.ev E x=xv at hv hx
  cases xv with
  |ref loc s off=>
   simp only[iR,aao,mF] at hv
   obtain⟨cs,h1,v',h2,rfl,rfl⟩:=hv
   exact .fD h (Qp h hx (by simp[h1,h2]))
  |aK cs off=>
   simp only[aao,mF] at hv
   obtain⟨v',h2,rfl,rfl⟩:=hv
   exact .fD h (Qp h hx h2)
  |_=>simp at hv
 ·rename_i t p x hop
  simp only[hop]
  have hp:=ev p
  have hx:=ev x
  generalize fr.ev E p=pv at hv hp
  cases pv with
  |ref loc s off=>
   simp only[iR] at hv
   obtain⟨cs,hcs,hv⟩:=hv
   split at hv
   ·rename_i hc
    simp only[iE,mF] at hv
    obtain⟨rfl,rfl⟩:=hv
    obtain⟨w',r1,r2⟩:=adZ (new:=(· =st)) h hB hp hx hcs hc.1 hc.2.1 hc.2.2
    exact .QD r1 r2
   ·simp at hv
  |_=>simp at hv
 ·rename_i x hop
  simp only[hop]
  have hx:=ev x
  generalize fr.ev E x=xv at hv hx
  cases xv with
  |ref loc s off=>
   simp only[iE,mF] at hv
   obtain⟨rfl,rfl⟩:=hv
   generalize a.eval x=cx at hx
   cases hx with|ref _ _ _ hA=>exact⟨_,_,w,K,rfl,.inl rfl,.ref loc s off hA,.refl h⟩
  |aK cs off=>
   simp only[iE,mF] at hv
   obtain⟨rfl,rfl⟩:=hv
   generalize a.eval x=cx at hx
   have hx':=hx
   cases hx with|aK _ _ b o val h1 h2=>exact⟨_,_,w,K,rfl,.inl rfl,hx',.refl h⟩
  |fn f g l=>
   cases f with
   |func f=>
    simp only[iE,mF] at hv
    obtain⟨rfl,rfl⟩:=hv
    generalize a.eval x=cx at hx
    have hx':=hx
    cases hx with|fn _ _ _ av bv h1 h2 h3 h4=>exact⟨_,_,w,K,rfl,.inl rfl,hx',.refl h⟩
   |_=>simp at hv
  |_=>simp at hv
 ·rename_i op t x y _ hop
  simp only[aao,mF] at hv
  obtain⟨v',hv',rfl,rfl⟩:=hv
  simp only[hop]
  exact .fD h (adS w x y (ev x) (ev y) hv')
 ·rename_i op t x hop
  simp only[aao,mF] at hv
  obtain⟨v',hv',rfl,rfl⟩:=hv
  simp only[hop]
  exact .fD h (adT w (ev x) hv')
 ·rename_i s d x hop
  simp only[aao,mF] at hv
  obtain⟨v',hv',rfl,rfl⟩:=hv
  simp only[hop]
  exact .rE (adW h hB (ev x) hv')
 ·rename_i t x hop
  simp only[iR] at hv
  obtain⟨⟨n,e⟩,hn,hv⟩:=hv
  have hu:=VQ hn
  simp only[hop]
  have hx:=ev x
  generalize fr.ev E x=xv at hv hx
  generalize a.eval x=cx at hx
  cases xv with
  |vw loc s off len cap aS ag=>
   simp only at hv
   split at hv
   ·rename_i hle
    simp only[iE,mF] at hv
    obtain⟨rfl,rfl⟩:=hv
    cases hx with
    |kZ=>omega
    |vw _ _ _ _ _ _ _ dD hA hcc hlc hsz=>
     have:¬(len<n):=by omega
     exact .fD h ⟨_,by simp[Instr.arrayAt,run_underlying hu,this],.ref loc s off hA⟩
   ·simp at hv
  |aj c l=>
   simp only at hv
   split at hv
   ·rename_i hc
    obtain⟨c1,c2,c3⟩:=hc
    simp only[iE,mF] at hv
    obtain⟨rfl,rfl⟩:=hv
    cases hx with
    |dP=>simp at c2;omega
    |aj _ _ b o m cap val hle hn hcell hrel hcap=>
     have hlt:¬(l.length<n):=by omega
     have hone:∀i,i<l.length->(l.getD i aC).cells=[l.getD i aC]:=fun i hi=>by
      simp only[bC,adI] at c3
      have:=c3 _ (aed hi)
      rw[iD hi]
      revert this
      cases l[i]<;>simp[oneCell,V.cells]
     have hm:m=1:=by
      have h0:0<l.length:=by omega
      rw[<-hn 0 h0,hone 0 h0];rfl
     subst hm
     refine .fD h ⟨.pointer (some (at_ b (o+0))),by simp[Instr.arrayAt,run_underlying hu,hlt],.aK (l.take n) 0 b o (fun j=>val j 0) (fun j hj=> ?_) (fun j hj=> ?_)⟩
     ·have hj':j<l.length:=by rw[ads] at hj;omega
      have:=hcell j 0 hj' (by omega)
      simpa using this
     ·have hj':j<l.length:=by rw[ads] at hj;omega
      have hjn:j<n:=by rw[ads] at hj;omega
      have:=hrel j 0 hj' (by omega)
      rw[hone j hj'] at this
      have e:(l.take n).getD j aC=l.getD j aC:=by
       rw[adH,adH,List.getElem?_take_of_lt hjn]
      rw[e]
      simpa using this
   ·simp at hv
  |_=>simp at hv
 ·rename_i t x hop
  simp only[hop]
  split at hv
  ·simp at hv
  ·rename_i d hu hd
   simp only[iE,mF] at hv
   obtain⟨rfl,rfl⟩:=hv
   refine .fD h ⟨.iface t (a.eval x), ?_,.iface t _ _ (ev x)⟩
   simp only[Instr.makeInterface,Sem.run_bind,run_underlying hd,Result.andThen_ok]
   rfl
  ·simp at hv
 ·rename_i f p q hop
  simp only[iE,mF] at hv
  obtain⟨rfl,rfl⟩:=hv
  simp only[hop]
  obtain⟨h1,h2⟩:=BD h hf p
  obtain⟨h3,h4⟩:=BD h hf q
  exact .fD h ⟨_,rfl,.fn f _ _ _ _ h1 h3 h2 h4⟩
 ·rename_i t hop
  simp only[aao,mF] at hv
  obtain⟨loc,_,rfl,rfl⟩:=hv
  simp only[hop]
  exact .rE (aey h hB hst loc t)
 ·rename_i t l c hop
  simp only[hop]
  exact .rE (aeo h hB hst (ev l) (ev c) hv)
 ·rename_i t x lo hi mx hop
  simp only[aao,mF] at hv
  obtain⟨v',hv',rfl,rfl⟩:=hv
  simp only[hop]
  have opt:∀(p:Option Operand) v,iw E fr p=some v->∃c,p.map a.eval=some c/\Rel K σ.top w v c:=by
   intro p v hp
   cases p with
   |none=>simp[iw] at hp
   |some p=>
    simp only[iw,iE] at hp;subst hp
    exact⟨_,rfl,ev p⟩
  have QE:∀(p:Option Operand),iw E fr p=none->p.map a.eval=none:=by
   intro p hp
   cases p with
   |none=>rfl
   |some p=>simp[iw] at hp
  exact .fD h (adU w rfl h (ev x) (opt lo) (QE lo) (opt hi) (QE hi) (opt mx) (QE mx) hv')
 ·rename_i t x f hop
  simp only[iR] at hv
  obtain⟨⟨o',u⟩,hfi,hv⟩:=hv
  simp only[hop]
  have hx:=ev x
  generalize fr.ev E x=xv at hv hx
  cases xv with
  |ref loc s off=>
   simp only[iE,mF] at hv
   obtain⟨rfl,rfl⟩:=hv
   exact .fD h (VZ hx hfi rfl)
  |aK cs off=>
   simp only[iE,mF] at hv
   obtain⟨rfl,rfl⟩:=hv
   exact .fD h (VZ hx hfi rfl)
  |_=>simp at hv
 ·rename_i t x f hop
  simp only[iR] at hv
  obtain⟨⟨o',u⟩,hfi,hv⟩:=hv
  simp only[hop]
  have hx:=ev x
  generalize fr.ev E x=xv at hv hx
  generalize a.eval x=cx at hx
  cases xv with
  |agg cs=>
   simp only[aao,mF] at hv
   obtain⟨v',hv',rfl,rfl⟩:=hv
   cases hx with|agg _ vs hl hr=>
   obtain⟨fs,g,n,hu,hg,rfl,rfl,hn⟩:=VT hfi
   obtain⟨c,r1,r2⟩:=Bp (P:=E.P) (w:=w) hl hr hv'
   exact .fD h ⟨c,by simp[Instr.field,run_underlying hu,hg,asAgg,r1],r2⟩
  |_=>simp at hv
 ·rename_i t x i hop
  simp only[aao,mF] at hv
  obtain⟨v',hv',rfl,rfl⟩:=hv
  simp only[hop]
  exact .fD h (adX (ev x) (ev i) hv')
 ·rename_i t x i hop
  simp only[aao,mF] at hv
  obtain⟨v',hv',rfl,rfl⟩:=hv
  simp only[hop]
  exact .fD h (adY (ev x) (ev i) hv')
 ·rename_i t x i ok hop
  simp only[aao,mF] at hv
  obtain⟨v',hv',rfl,rfl⟩:=hv
  simp only[hop]
  exact .fD h (ad3 h (ev x) (ev i) hv')
 ·rename_i t m k x hop
  simp only[aao,mF] at hv
  obtain⟨σ1,hv',rfl,rfl⟩:=hv
  simp only[hop]
  obtain⟨w',r1,r2,_⟩:=V7 (new:=(· =st)) h hB (ev m) (ev k) (ev x) hv'
  exact .QD r1 r2
 ·rename_i t m k x hop
  simp only[aao,mF] at hv
  obtain⟨σ1,hv',rfl,rfl⟩:=hv
  simp only[hop]
  obtain⟨w',r1,r2,_⟩:=V7 (new:=(· =st)) h hB (ev m) (ev k) (ev x) hv'
  exact .QD r1 r2
 ·rename_i x i hop
  simp only[hop]
  have hx:=ev x
  generalize fr.ev E x=xv at hv hx
  generalize a.eval x=cx at hx
  cases xv with
  |bE vs=>
   simp only[aao,mF] at hv
   obtain⟨v',hv',rfl,rfl⟩:=hv
   cases hx with|bE _ WG hl hr=>
   have hi:i<vs.length:=(afM.1 hv').1
   have hi':i<WG.size:=by omega
   refine .fD h ⟨WG[i],by simp[Instr.extract,hi'], ?_⟩
   have:=hr i hi
   rw[iD hi,Bo hi'] at this
   have e:vs[i]=v':=(afM.1 hv').2
   rw[<-e];exact this
  |_=>simp at hv
 ·simp at hv
end
end Aq
end
section
namespace Aq
open Go Go.RowKit
section
variable {E:Env} {B0:Nat} {σ:ah} {K:aP} {w:World} {new:Nat->Prop} {T:Nat->Nat}
def RelA (K:aP) (T:Nat->Nat) (w:World) (l:List V) (cl:Array Value):Prop:=l.length=cl.size/\∀i,i<l.length->Rel K T w (l.getD i aC) (cl.getD i undef)
theorem WH {x:V} {cl:Array Value} (h:RelA K T w [x] cl):∃c,cl= #[c]/\Rel K T w x c:=by
 obtain⟨h1,h2⟩:=h
 have hs:cl.size=1:=by simpa using h1.symm
 refine⟨cl[0], ?_, ?_⟩
 ·apply Array.ext
  ·simpa using hs
  ·intro i h1 h2
   obtain rfl:i=0:=by omega
   rfl
 ·have:=h2 0 (by simp)
  rwa[Bo (by omega)] at this
theorem WI {x y:V} {cl:Array Value} (h:RelA K T w [x,y] cl):∃c d,cl= #[c,d]/\Rel K T w x c/\Rel K T w y d:=by
 obtain⟨h1,h2⟩:=h
 have hs:cl.size=2:=by simpa using h1.symm
 refine⟨cl[0],cl[1], ?_, ?_, ?_⟩
 ·apply Array.ext
  ·simpa using hs
  ·intro i h1 h2
   have:i=0\/i=1:=by omega
   rcases this with rfl|rfl<;>rfl
 ·have:=h2 0 (by simp)
  rwa[Bo (by omega)] at this
 ·have:=h2 1 (by simp)
  rwa[Bo (by omega)] at this
theorem WJ {x:V} {l:List V} {cl:Array Value} (h:RelA K T w (x::l) cl):∃c cs,cl.toList=c::cs/\Rel K T w x c/\l.length=cs.length/\∀i,i<l.length->Rel K T w (l.getD i aC) (cs.getD i undef):=by
 obtain⟨h1,h2⟩:=h
 cases hc:cl.toList with
 |nil=>
  have:cl.size=0:=by rw[<-Array.length_toList,hc];rfl
  simp[this] at h1
 |cons c cs=>
  have hg:∀i,cl.getD i undef=(c::cs).getD i undef:=fun i=>by rw[<-hc,Kj]
  have hl:cl.size=cs.length+1:=by rw[<-Array.length_toList,hc];rfl
  refine⟨c,cs,rfl, ?_,by simp at h1;omega,fun i hi=> ?_⟩
  ·have:=h2 0 (by simp)
   rw[hg] at this
   simpa using this
  ·have:=h2 (i+1) (by simp;omega)
   rw[hg] at this
   simpa using this
theorem aeB (h:aV E B0 σ K w) (hB:B0<=w.heap.size) {om:Bool} {loc:Option Loc} {st:Nat} (hst:¬K.A st) {b:Builtin} {tys:Array TypeId} {ty:TypeId} {consts:Array Bool} {args:List V} {dB:Array Value} {v:V} {σ':ah}
 (hr:RelA K σ.top w args dB) (hv:nM E om loc σ st b tys args=some (v,σ')):rD E B0 (· =st) σ K w (builtin b tys ty consts dB) v σ':=by
 unfold nM at hv
 split at hv
 ·rename_i x
  simp only[iR,aao,mF] at hv
  obtain⟨t,ht,n,hn,rfl,rfl⟩:=hv
  obtain⟨c,rfl,hx⟩:=WH hr
  exact .fD h ⟨_,aev h ht hx hn,.int .i64 n⟩
 ·rename_i x
  simp only[iR] at hv
  obtain⟨t,ht,e,he,hv⟩:=hv
  obtain⟨c,rfl,hx⟩:=WH hr
  obtain⟨rfl,r⟩:=aew (ty:=ty) ht (Fg he) hv hx
  exact .fD h r
 ·rename_i x y
  simp only[iR] at hv
  obtain⟨t,ht,u,⟨tx,htx,hu⟩,hv⟩:=hv
  obtain⟨c,d,rfl,hx,hy⟩:=WI hr
  have he:Builtin.append_ tys ty #[c,d]=Builtin.append_ #[t,tx] ty #[c,d]:=by simp[Builtin.append_,ht,htx]
  show rD E B0 _ σ K w (do pure (.value (<-Builtin.append_ tys ty #[c,d]))) v σ'
  rw[he]
  split at hv
  ·rename_i k
   exact .rE (QC h hB hst hx hy (fun _=>⟨k,hu⟩) (fun hf=>by cases hf) hv)
  ·rename_i e
   exact .rE (QC h hB hst hx hy (fun hf=>by cases hf) (fun _=>.inl ⟨e,hu⟩) hv)
  ·exact .rE (QC h hB hst hx hy (fun hf=>by cases hf) (fun _=>.inr hu) hv)
  ·simp at hv
 ·rename_i x y
  simp only[iR] at hv
  obtain⟨t,ht,hv⟩:=hv
  obtain⟨c,d,rfl,hx,hy⟩:=WI hr
  have he:Builtin.copy_ tys ty #[c,d]=Builtin.copy_ #[t,t] ty #[c,d]:=by simp[Builtin.copy_,ht]
  show rD E B0 _ σ K w (do pure (.value (<-Builtin.copy_ tys ty #[c,d]))) v σ'
  rw[he]
  exact .rE (aeu h hB hx hy hv)
 ·rename_i x l
  simp only[aao,mF] at hv
  obtain⟨v',hv',rfl,rfl⟩:=hv
  obtain⟨c,cs,hc,hx,hl,hrel⟩:=WJ hr
  obtain⟨c',r1,r2⟩:=Wz l cs x v' c hl hrel hx hv'
  have he:Builtin.min_ tys ty dB=cs.foldlM Builtin.min2 c:=by unfold Builtin.min_;rw[hc]
  exact .fD (s:=Builtin.min_ tys ty dB) h ⟨c',by rw[he];exact r1,r2⟩
 ·rename_i x l
  simp only[aao,mF] at hv
  obtain⟨v',hv',rfl,rfl⟩:=hv
  obtain⟨c,cs,hc,hx,hl,hrel⟩:=WJ hr
  obtain⟨c',r1,r2⟩:=WA l cs x v' c hl hrel hx hv'
  have he:Builtin.max_ tys ty dB=cs.foldlM Builtin.max2 c:=by unfold Builtin.max_;rw[hc]
  exact .fD (s:=Builtin.max_ tys ty dB) h ⟨c',by rw[he];exact r1,r2⟩
 ·simp at hv
end
end Aq
end
section
namespace Aq
open Go Go.RowKit
def FW (ro:Option Nat):Fence:={Fence.wide with round:=ro}
structure BF where
 l:List Deferred
 B:Nat
 nm:Bool
def mark (b:Nat):Deferred:=⟨.collected b, #[]⟩
structure St (E:Env) (B0:Nat) (σ:ah) (K:aP) (w:World) (fr:Fr) (a:Act) (n:Nat) (ds:BF):Prop where
 ok:aV E B0 σ K w
 hB:B0<=w.heap.size
 fr:kg K σ.top w fr a.tmps
 sz:a.tmps.size=n
 df:∃bs:List Nat,a.defers=bs.map mark++ds.l/\bs.Nodup/\(∀b∈bs,K.D b/\ds.B<=b)/\(ds.nm=true->bs=[])
 st:∀s,K.A s->s<σ.next
 hD:ds.B<=w.heap.size
def ow:Ex->Exit->Prop
 |.normal,.normal=>True
 |.exit i,.exit j=>i=j
 |.ret,.ret=>True
 |_,_=>False
def newer (σ σ':ah) (s:Nat):Prop:=σ.next<=s/\s<σ'.next
def zl (E:Env) (B0 n:Nat) (ds:BF) (σ:ah) (K:aP) (w:World) (e:Ex) (fr':Fr) (σ':ah):Exit->Act->World->Prop:=
 fun x a' w'=>ow e x/\∃K',St E B0 σ' K' w' fr' a' n ds/\Step E B0 (newer σ σ') σ K w σ' K' w'
def Kr (E:Env) (code:Code->Fr->ah->Option (Ex×Fr×ah)):Prop:=
 ∀c fr σ e fr' σ',code c fr σ=some (e,fr',σ')->σ.next<=σ'.next/\∀ro B0 K w a n ds,St E B0 σ K w fr a n ds->iM n c=true->(ro=none/\ds.nm=false\/lW c=true)->c.wpIn (FW ro) 0 E.P (zl E B0 n ds σ K w e fr' σ') a w
def xg (E:Env) (B0:Nat) (σ:ah) (K:aP) (w:World) (v:V) (σ':ah):Ending->World->Prop
 |.returned c,w'=> ∃K',Rel K' σ'.top w' v c/\aV E B0 σ' K' w'/\(∀s,K'.A s->s<σ'.next)/\Step E B0 (newer σ σ') σ K w σ' K' w'
 |_,_=>False
def xk (E:Env) (f:FuncId):Prop:=∃fn c,E.P.funcs[f]? =some fn/\fn.body=some c
def Fz (E:Env) (call:FuncId->List V->Nat->ah->Option (V×ah)):Prop:=
 ∀f args d σ v σ',call f args d σ=some (v,σ')->σ.next<=σ'.next/\xk E f/\∀ro B0 K w dB,aV E B0 σ K w->B0<=w.heap.size->(∀s,K.A s->s<σ.next)->RelA K σ.top w args dB->
  CallsIn (FW ro) 0 E.P f dB w (xg E B0 σ K w v σ')
structure Sound (E:Env) (S:jI):Prop where
 code:Kr E S.code
 call:Fz E S.call
theorem Step.widen {E:Env} {B0:Nat} {σ σ1 σ2:ah} {K K1 K2:aP} {w w1 w2:World} (h:Step E B0 (newer σ σ1) σ K w σ1 K1 w1) (g:Step E B0 (newer σ1 σ2) σ1 K1 w1 σ2 K2 w2)
 (h1:σ.next<=σ1.next) (h2:σ1.next<=σ2.next):Step E B0 (newer σ σ2) σ K w σ2 K2 w2:=
 (h.mono (fun _ hs=>⟨hs.1,adV hs.2 h2⟩)).trans (g.mono (fun _ hs=>⟨aav h1 hs.1,hs.2⟩))
end Aq
end
section
open Go
namespace Aq
section
variable {F:Fence} {n:Nat} {P:Program} {Q:Exit->Act->World->Prop} {b:Frame} {k:List Item} {cs:List Frame} {a:Act} {w:World}
theorem BG {c:Code}:step P (lone (b.atR a (.code (.scope c)::k)) cs w)= .next (lone (b.atR a (.code c:: .inScope c::k)) cs w):=
 step_lone_go (by simp[stepG,stepG.exec,Frame.atR])
theorem aeC {c:Code}:step P (lone (b.atR a (.inScope c::k)) cs w)= .next (lone (b.atR a k) cs w):=
 step_lone_go (by simp[stepG,stepG.exec,Frame.atR])
theorem aeD {c:Code} (h:c.wpIn F n P (Exit.noGoto Q) a w):(Code.scope c).wpIn F n P Q a w:=by
 intro b k cs hro hb hr
 have h0:(lone (b.atR a (.code (.scope c)::k)) cs w).fenced P F:=fenced_calm hb hr rfl
 obtain⟨e,a₁,w₁,hq,harr⟩:=h b (.inScope c::k) cs hro hb hr
 cases e with
 |normal=>exact⟨.normal,a₁,w₁,hq,.head h0 BG (StepsIn.trans harr (.one (fenced_calm hb hr rfl) aeC))⟩
 |exit id'=>
  have hx:exitTo id' (.inScope c::k)=exitTo id' k:=by simp[exitTo]
  exact⟨.exit id',a₁,w₁,hq,fun k' hk=>.head h0 BG (harr.1 k' (by rw[hx];exact hk)),
   fun hr' hk=>let ⟨k₁,h1,h2⟩:=harr.2 hr' (by rw[hx];exact hk);⟨k₁,h1,.head h0 BG h2⟩⟩
 |goto l=>exact hq.elim
 |ret=>exact⟨_,a₁,w₁,hq,.of_steps (.one h0 BG) harr⟩
 |panic ch=>exact⟨_,a₁,w₁,hq,.of_steps (.one h0 BG) harr⟩
 |outgrown=>exact⟨_,a₁,w₁,hq,.of_steps (.one h0 BG) harr⟩
end
end Aq
end
section
namespace Aq
open Go Go.RowKit
section
variable {E:Env} {B0:Nat} {σ:ah} {K:aP} {w:World} {fr:Fr} {a:Act} {n:Nat} {ds:BF}
def mG (E:Env) (c:Code) (fr:Fr) (σ:ah) (e:Ex) (fr':Fr) (σ':ah):Prop:=
 σ.next<=σ'.next/\∀ro B0 K w a n ds,St E B0 σ K w fr a n ds->iM n c=true->(ro=none/\ds.nm=false\/lW c=true)->c.wpIn (FW ro) 0 E.P (zl E B0 n ds σ K w e fr' σ') a w
theorem aeE:mG E .skip fr σ .normal fr σ:=
 ⟨RS _,fun _ _ K _ _ _ _ h _ _=>wpIn_skip ⟨trivial,K,h,.refl h.ok⟩⟩
theorem aeF (id:Nat):mG E (.exit id) fr σ (.exit id) fr σ:=
 ⟨RS _,fun _ _ K _ _ _ _ h _ _=>wpIn_exit ⟨rfl,K,h,.refl h.ok⟩⟩
theorem aeG:mG E .ret fr σ .ret fr σ:=
 ⟨RS _,fun _ _ K _ _ _ _ h _ _=>wpIn_ret ⟨trivial,K,h,.refl h.ok⟩⟩
theorem aeH (l:Nat):mG E (.label l) fr σ .normal fr σ:=
 ⟨RS _,fun _ _ K _ _ _ _ h _ _=>wpIn_label ⟨trivial,K,h,.refl h.ok⟩⟩
theorem aeI {c:Code} {e:Ex} {bQ:Fr} {σ1:ah} (h:mG E c fr σ e bQ σ1):mG E (.scope c) fr σ e bQ σ1:=by
 refine⟨h.1,fun ro B0 K w a n ds hs hok hnr=>aeD (wpIn_mono (h.2 ro B0 K w a n ds hs hok hnr) ?_)⟩
 rintro x a1 w1 ⟨hx,hr⟩
 cases x with
 |goto l=>cases e<;>simp only[ow] at hx
 |_=>exact⟨hx,hr⟩
theorem zl.widen {σ1 σ2:ah} {K1:aP} {w1:World} {e:Ex} {fr':Fr} (h:Step E B0 (newer σ σ1) σ K w σ1 K1 w1) (h1:σ.next<=σ1.next) (h2:σ1.next<=σ2.next):
 ∀x a' w',zl E B0 n ds σ1 K1 w1 e fr' σ2 x a' w'->zl E B0 n ds σ K w e fr' σ2 x a' w':=by
 rintro x a' w' ⟨g1,K2,g2,g3⟩
 exact⟨g1,K2,g2,h.widen g3 h1 h2⟩
theorem aeJ {c d:Code} {e:Ex} {bQ fK:Fr} {σ1 σ2:ah} (h:mG E c fr σ .normal bQ σ1) (g:mG E d bQ σ1 e fK σ2):mG E (.seq c d) fr σ e fK σ2:=by
 refine⟨aav h.1 g.1,fun ro B0 K w a n ds hs hok hnr=> ?_⟩
 simp only[iM,aan] at hok
 simp only[lW,aan] at hnr
 refine wpIn_seq (wpIn_mono (h.2 ro B0 K w a n ds hs hok.1 (hnr.imp id And.left)) ?_)
 rintro x a1 w1 ⟨hx,K1,s1,st1⟩
 cases x<;>simp only[ow] at hx
 exact wpIn_mono (g.2 ro B0 K1 w1 a1 n ds s1 hok.2 (hnr.imp id And.right)) (zl.widen st1 h.1 g.1)
theorem WK {c d:Code} {e:Ex} {bQ:Fr} {σ1:ah} (he:e≠ .normal) (h:mG E c fr σ e bQ σ1):mG E (.seq c d) fr σ e bQ σ1:=by
 refine⟨h.1,fun ro B0 K w a n ds hs hok hnr=> ?_⟩
 simp only[iM,aan] at hok
 simp only[lW,aan] at hnr
 refine wpIn_seq (wpIn_mono (h.2 ro B0 K w a n ds hs hok.1 (hnr.imp id And.left)) ?_)
 rintro x a1 w1 ⟨hx,K1,s1,st1⟩
 cases e<;>cases x<;>simp only[ow] at hx
 ·exact absurd rfl he
 ·exact⟨hx,K1,s1,st1⟩
 ·exact⟨hx,K1,s1,st1⟩
theorem aeK {c:Operand} {x y:Code} {t:Bool} {e:Ex} {bQ:Fr} {σ1:ah} (hc:oh (fr.ev E c)=some t) (h:mG E (if t then x else y) fr σ e bQ σ1):mG E (.cond c x y) fr σ e bQ σ1:=by
 refine⟨h.1,fun ro B0 K w a n ds hs hok hnr=> ?_⟩
 simp only[iM,aan] at hok
 simp only[lW,aan] at hnr
 refine wpIn_cond (WB (wW hs.ok hs.fr c) hc) (h.2 ro B0 K w a n ds hs ?_ ?_)
 ·cases t
  ·exact hok.2
  ·exact hok.1
 ·cases t
  ·exact hnr.imp id And.right
  ·exact hnr.imp id And.left
def QF (id:Nat):Ex->Ex
 |.exit i=>if i=id then .normal else .exit i
 |e=>e
theorem aeL {id:Nat} {c:Code} {e:Ex} {bQ:Fr} {σ1:ah} (h:mG E c fr σ e bQ σ1):mG E (.block id c) fr σ (QF id e) bQ σ1:=by
 refine⟨h.1,fun ro B0 K w a n ds hs hok hnr=>wpIn_block (wpIn_mono (h.2 ro B0 K w a n ds hs hok hnr) ?_)⟩
 rintro x a1 w1 ⟨hx,K1,s1,st1⟩
 cases e with
 |normal=>cases x<;>simp only[ow] at hx;exact⟨trivial,K1,s1,st1⟩
 |ret=>cases x<;>simp only[ow] at hx;exact⟨trivial,K1,s1,st1⟩
 |exit i=>
  cases x<;>simp only[ow] at hx
  subst hx
  simp only[Exit.inBlock,QF]
  split
  ·exact⟨trivial,K1,s1,st1⟩
  ·exact⟨rfl,K1,s1,st1⟩
end
end Aq
end
section
namespace Aq
open Go Go.RowKit
section
variable {E:Env} {B0:Nat} {σ σ':ah} {K K':aP} {w w':World} {fr:Fr} {a:Act} {n:Nat} {ds:BF}
theorem kg.put {T:Nat->Nat} (h:kg K T w fr a.tmps) {d:Option Nat} {v:V} {c:Value} (hr:Rel K T w v c) (hd:∀i,d=some i->i<a.tmps.size):kg K T w (fr.put d v) (a.put d c).tmps:=by
 cases d with
 |none=>exact h
 |some i=>
  have hi:=hd i rfl
  intro t
  show Rel K T w (upd fr.tm i v t) ((a.tmps.setIfInBounds i c).getD t undef)
  by_cases ht:t=i
  ·subst ht
   rw[upd_same]
   have:(a.tmps.setIfInBounds t c).getD t undef=c:=by simp[Array.getD,hi]
   rw[this];exact hr
  ·rw[upd_ne _ _ ht]
   have:(a.tmps.setIfInBounds i c).getD t undef=a.tmps.getD t undef:=by
    simp only[Array.getD,Array.size_setIfInBounds]
    split
    ·rename_i hlt
     show (a.tmps.setIfInBounds i c)[t]'(by simpa using hlt)=a.tmps[t]
     rw[Array.getElem_setIfInBounds_ne hlt (Ne.symm ht)]
    ·rfl
   rw[this];exact h t
theorem aeM (a:Act) (d:Option Nat) (c:Value):(a.put d c).tmps.size=a.tmps.size:=by cases d<;>simp[Act.put]
theorem put_defers (a:Act) (d:Option Nat) (c:Value):(a.put d c).defers=a.defers:=by cases d<;>rfl
theorem St.put (h:St E B0 σ K w fr a n ds) {new:Nat->Prop} {d:Option Nat} {v:V} {c:Value} (hs:Step E B0 new σ K w σ' K' w') (hr:Rel K' σ'.top w' v c) (hd:∀i,d=some i->i<n) (hst:∀s,K'.A s->s<σ'.next):
 St E B0 σ' K' w' (fr.put d v) (a.put d c) n ds:=
 ⟨hs.ok,aav h.hB hs.below.size,kg.put (h.fr.ext hs.ext) hr (fun i hi=>by rw[h.sz];exact hd i hi),by rw[aeM];exact h.sz,by obtain⟨bs,h1,h2,h3,h4⟩:=h.df;exact⟨bs,by rw[put_defers];exact h1,h2,fun b hb=>⟨hs.D b (h3 b hb).1,(h3 b hb).2⟩,h4⟩,hst,aav h.hD hs.below.size⟩
theorem Kt {o:Oper} (ro:Option Nat) (ρ:Operand->Value) (h:∀c,o.op≠ .defer c):o.semAt ro ρ=execOp ρ o:=by
 unfold Oper.semAt
 split
 ·rename_i c hc
  exact absurd hc (h c)
 ·rfl
theorem aeN {o:Oper} {ro:Option Nat} {new:Nat->Prop} {v:V} {next:Act->World->Prop} {Q:Exit->Act->World->Prop} (ho:∀c,o.op≠ .defer c) (hd:rD E B0 new σ K w (execOp a.eval o) v σ')
 (hn:∀c w' K',Rel K' σ'.top w' v c->Step E B0 new σ K w σ' K' w'->next (a.put o.dst c) w'):o.wpIn (FW ro) 0 E.P a w next Q:=by
 refine⟨fun f _=>trivial, ?_⟩
 obtain⟨nx,c,w',K',h1,h2,h3,h4⟩:=hd
 rw[Kt _ _ ho,h1]
 rcases h2 with rfl| ⟨rfl,rfl⟩
 ·exact hn c w' K' h3 h4
 ·exact hn undef w' K' h3 h4
end
end Aq
end
section
namespace Aq
open Go Go.RowKit
def rF (σ σ':ah):Prop:=σ'.next=σ.next/\σ'.loops=σ.loops
theorem rF.refl (σ:ah):rF σ σ:=⟨rfl,rfl⟩
section
variable {E:Env} {σ σ':ah} {fr:Fr}
theorem aeO {t:TypeId} {m k v:V} (h:qz E.P σ t m k v=some σ'):rF σ σ':=by
 simp only[qz,iR] at h
 obtain⟨⟨kt,et⟩,_,h⟩:=h
 split at h
 ·cases m<;>simp only[reduceCtorEq] at h
  simp only[iR,aao] at h
  obtain⟨_,_,_,_,rfl⟩:=h
  exact⟨rfl,rfl⟩
 ·simp at h
theorem aeP {om:Bool} {st:Nat} {loc:Option Loc} {t:TypeId} {l c v:V} (h:sK E.P om σ st loc t l c=some (v,σ')):rF σ σ':=by
 simp only[sK,iR] at h
 obtain⟨_,_,_,_,_,_,_,_,_,_,_,_,h⟩:=h
 split at h
 ·split at h
  ·simp only[iE,mF] at h
   obtain⟨_,rfl⟩:=h
   exact⟨rfl,rfl⟩
  ·simp only[iR,aao,mF] at h
   obtain⟨_,_,_,_,_,rfl⟩:=h
   exact⟨rfl,rfl⟩
 ·simp at h
theorem aeQ {t:TypeId} {x y v:V} (h:copyV E.P σ t x y=some (v,σ')):rF σ σ':=by
 simp only[copyV,iR] at h
 obtain⟨_,_,_,_,_,_,h⟩:=h
 split at h
 ·simp only[iR] at h
  obtain⟨_,_,h⟩:=h
  split at h
  ·split at h
   ·simp only[iR] at h
    obtain⟨_,_,h⟩:=h
    split at h
    ·simp only[iE,mF] at h
     obtain⟨_,rfl⟩:=h
     exact⟨rfl,rfl⟩
    ·simp at h
   ·simp only[iE,mF] at h
    obtain⟨_,rfl⟩:=h
    exact⟨rfl,rfl⟩
   ·simp at h
  ·simp at h
 ·simp at h
theorem QG {om zeros:Bool} {st:Nat} {loc:Option Loc} {t:TypeId} {x y v:V} (h:jB E.P om zeros σ st loc t x y=some (v,σ')):rF σ σ':=by
 simp only[jB,iR] at h
 obtain⟨_,_,_,_,_,_,_,_,_,_,h⟩:=h
 split at h
 ·simp only[iR] at h
  obtain⟨_,_,h⟩:=h
  split at h
  ·split at h
   ·split at h
    ·split at h
     all_goals first
      | (simp only[aao,mF] at h;obtain⟨_,_,_,rfl⟩:=h;exact⟨rfl,rfl⟩)
      | (simp only[iE,mF] at h;obtain⟨_,rfl⟩:=h;exact⟨rfl,rfl⟩)
      | (split at h
         ·simp at h
         ·simp only[aao,mF] at h;obtain⟨_,_,_,rfl⟩:=h;exact⟨rfl,rfl⟩)
      | (split at h
         ·simp only[iE,mF] at h;obtain⟨_,rfl⟩:=h;exact⟨rfl,rfl⟩
         ·simp only[aao,mF] at h;obtain⟨_,_,_,rfl⟩:=h;exact⟨rfl,rfl⟩)
      | (split at h
         ·simp only[iE,mF] at h;obtain⟨_,rfl⟩:=h;exact⟨rfl,rfl⟩
         ·simp at h)
      |simp at h
    ·simp at h
   ·split at h
    ·simp only[iR] at h
     obtain⟨_,_,_,_,h⟩:=h
     split at h
     ·split at h
      ·simp only[iE,mF] at h;obtain⟨_,rfl⟩:=h;exact⟨rfl,rfl⟩
      ·simp at h
     ·split at h
      ·simp only[iE,mF] at h;obtain⟨_,rfl⟩:=h;exact⟨rfl,rfl⟩
      ·simp at h
    ·simp at h
   ·simp at h
  ·simp at h
 ·simp at h
theorem WL {om:Bool} {st:Nat} {loc:Option Loc} {b:Builtin} {tys:Array TypeId} {args:List V} {v:V} (h:nM E om loc σ st b tys args=some (v,σ')):rF σ σ':=by
 unfold nM at h
 split at h
 ·simp only[iR,aao,mF] at h
  obtain⟨_,_,_,_,_,rfl⟩:=h;exact .refl _
 ·simp only[iR] at h
  obtain⟨_,_,_,_,h⟩:=h
  split at h
  ·simp only[iE,mF] at h;obtain⟨_,rfl⟩:=h;exact .refl _
  ·simp only[iE,mF] at h;obtain⟨_,rfl⟩:=h;exact .refl _
  ·simp at h
 ·simp only[iR] at h
  obtain⟨_,_,_,_,h⟩:=h
  split at h
  ·exact QG h
  ·exact QG h
  ·exact QG h
  ·simp at h
 ·simp only[iR] at h
  obtain⟨_,_,h⟩:=h
  exact aeQ h
 ·simp only[aao,mF] at h
  obtain⟨_,_,_,rfl⟩:=h;exact .refl _
 ·simp only[aao,mF] at h
  obtain⟨_,_,_,rfl⟩:=h;exact .refl _
 ·simp at h
theorem aeR {x v:V} (h:sM σ x=some (v,σ')):rF σ σ':=by
 unfold sM at h
 split at h
 ·simp only[iR] at h
  obtain⟨_,_,h⟩:=h
  split at h
  ·simp only[iE,mF] at h;obtain⟨_,rfl⟩:=h;exact⟨rfl,rfl⟩
  ·simp at h
 ·simp only[iE,mF] at h;obtain⟨_,rfl⟩:=h;exact .refl _
 ·simp only[iE,mF] at h;obtain⟨_,rfl⟩:=h;exact .refl _
theorem WM {st:Nat} {o:Oper} {v:V} (h:bg E fr σ st o=some (v,σ')):rF σ σ':=by
 unfold bg at h
 split at h
 all_goals first
  |exact aeP h
  | (split at h<;>first
      |exact aeR h
      | (simp only[iE,mF] at h;obtain⟨_,rfl⟩:=h;exact .refl _))
  | (simp only[iE,mF] at h;obtain⟨_,rfl⟩:=h;exact .refl _)
  | (simp only[aao,mF] at h;obtain⟨_,_,_,rfl⟩:=h;exact⟨rfl,rfl⟩)
  | (simp only[aao,mF] at h;obtain⟨_,h1,_,rfl⟩:=h;exact aeO h1)
  | (simp only[iR,aao,mF] at h;obtain⟨_,_,_,_,_,_,_,rfl⟩:=h;exact⟨rfl,rfl⟩)
  |simp at h
  | (simp only[iR] at h
     obtain⟨_,_,h⟩:=h
     split at h
     ·simp only[iE,mF] at h;obtain⟨_,rfl⟩:=h;exact⟨rfl,rfl⟩
     ·simp at h)
  |skip
 all_goals
  repeat' first
   |exact⟨rfl,rfl⟩
   | (obtain⟨_,_,h⟩:=h)
   | (simp only[iR] at h)
   |split at h
   | (simp only[iE,mF] at h;obtain⟨_,rfl⟩:=h;exact⟨rfl,rfl⟩)
   | (simp only[aao,mF] at h;obtain⟨_,_,_,rfl⟩:=h;exact⟨rfl,rfl⟩)
   | (simp at h;done)
end
end Aq
end
section
namespace Aq
open Go Go.RowKit
def aP.lend (I:Nat->Nat->Prop) (IM:Nat->Prop):aP:=
 {A:=fun _=>False,blk:=fun _=>0,sz:=fun _=>0,ob:=fun _=>0,lo:=fun _=>0,hi:=fun _=>0,lp:=fun _=>0,I:=I,IM:=IM,D:=fun _=>False,ρ:=fun _=>none}
def grow (I:Nat->Nat->Prop) (B:Nat) (w:World) (b o:Nat):Prop:=(I b o\/B<=b)/\∃v,w.cell? (at_ b o)=some v
def sS (IM:Nat->Prop) (B:Nat) (w:World) (b:Nat):Prop:=(IM b\/B<=b)/\∃es bL,w.heap[b]? =some (.map es bL)
theorem qG:∀{l:List V},aX l=true->∀i,i<l.length->aF (l.getD i aC)=true
 |v::l,h,0,_=>by simp only[aX,aan] at h;exact h.1
 |v::l,h,i+1,hi=>by simp only[aX,aan] at h;exact qG h.2 i (by simpa using hi)
theorem QH:∀{l:List V},jk l=true->∀i,i<l.length->flat (l.getD i aC)=true
 |v::l,h,0,_=>by simp only[jk,aan] at h;exact h.1
 |v::l,h,i+1,hi=>by simp only[jk,aan] at h;exact QH h.2 i (by simpa using hi)
theorem QI {v:V} (h:aF v=true) {j:Nat} (hj:j<v.cells.length):aF (v.cells.getD j aC)=true:=by
 cases v with
 |agg cs=>exact qG (l:=cs) (by simpa [aF] using h) j hj
 |_=>
  have:j=0:=by simpa [V.cells] using hj
  subst this;exact h
section
variable {K K':aP} {T T':Nat->Nat} {w w':World}
theorem Rel.pure {v:V} {c:Value} (h:Rel K T w v c) (hp:aF v=true) (hI:∀b o,K.I b o->K'.I b o/\w'.cell? (at_ b o)=w.cell? (at_ b o))
 (hM:∀b,K.IM b->K'.IM b/\w'.heap[b]? =w.heap[b]?):Rel K' T' w' v c:=by
 induction h with
 |int k n=>exact .int k n
 |bool b=>exact .bool b
 |str s b h=>exact .str s b h
 |fJ=>exact .fJ
 |fF=>exact .fF
 |eZ=>exact .eZ
 |gH=>exact .gH
 |agg cs vs hl _ ih=>exact .agg cs vs hl (fun i hi=>ih i hi (qG (by simpa [aF] using hp) i hi))
 |bE cs vs hl _ ih=>exact .bE cs vs hl (fun i hi=>ih i hi (qG (by simpa [aF] using hp) i hi))
 |dP c a ha hc=>
  cases c<;>simp only[aF,aap] at hp
  exact .dP .sh a (fun h=>by cases h) trivial
 |aj c l b o n cap val hle hn hcell _ hc ih=>
  cases c<;>simp only[aF,aap] at hp
  refine .aj .sh l b o n cap val hle hn (fun i j hi hj=> ?_) (fun i j hi hj=>ih i j hi hj (QI (qG hp i hi) (by rw[hn i hi];exact hj))) trivial
  obtain⟨h1,h2⟩:=hcell i j hi hj
  obtain⟨g1,g2⟩:=hI _ _ h2
  exact⟨g2.trans h1,g1⟩
 |vw loc s off len cap aS ag dD hA hc hle hsz=>simp[aF] at hp
 |kZ loc s aS ag hA=>simp[aF] at hp
 |aK cs off b o val hcell _ ih=>
  refine .aK cs off b o val (fun j hj=> ?_) (fun j hj=>ih j hj (qG (by simpa [aF] using hp) j hj))
  obtain⟨h1,h2⟩:=hcell j hj
  obtain⟨g1,g2⟩:=hI _ _ h2
  exact⟨g2.trans h1,g1⟩
 |ref loc s off hA=>simp[aF] at hp
 |fn f a b av bv ha hb _ _ iha ihb=>
  simp only[aF,aan] at hp
  exact .fn f a b av bv ha hb (fun i hi=>iha i hi (qG hp.1 i hi)) (fun i hi=>ihb i hi (qG hp.2 i hi))
 |yield l hA=>simp[aF] at hp
 |bP loc s hA=>simp[aF] at hp
 |dG ks vs b es bL hM' hb hk hv _ _ ihk E5=>
  simp only[aF,aan] at hp
  obtain⟨g1,g2⟩:=hM b hM'
  exact .dG ks vs b es bL g1 (g2.trans hb) hk hv (fun i hi=>ihk i hi (qG hp.1 i (by omega))) (fun i hi=>E5 i hi (qG hp.2 i (by omega)))
 |iface t v c _ ih=>exact .iface t v c (ih (by simpa [aF] using hp))
 |raw v=>simp[aF] at hp
theorem Rel.flat {v:V} {c:Value} (h:Rel K T w v c) (hp:flat v=true):Rel K' T' w' v c:=by
 induction h with
 |int k n=>exact .int k n
 |bool b=>exact .bool b
 |str s b h=>exact .str s b h
 |fJ=>exact .fJ
 |fF=>exact .fF
 |eZ=>exact .eZ
 |gH=>exact .gH
 |agg cs vs hl _ ih=>exact .agg cs vs hl (fun i hi=>ih i hi (QH (by simpa [Aq.flat] using hp) i hi))
 |bE cs vs hl _ ih=>exact .bE cs vs hl (fun i hi=>ih i hi (QH (by simpa [Aq.flat] using hp) i hi))
 |_=>simp[Aq.flat] at hp
theorem aeS {cs:List V} {vs:Array Value} (h:Rel K T w (.agg cs) (.agg vs)):cs.length=vs.size/\∀i,i<cs.length->Rel K T w (cs.getD i aC) (vs.getD i undef):=by
 cases h with
 |agg _ _ hl h=>exact⟨hl,h⟩
theorem aeT {n:Nat} {σ:ah} {cs:List V} {v:V} (h:aQ n σ (.agg cs)=some v):∃cs',v= .agg cs':=by
 cases n with
 |zero=>simp[aQ] at h
 |succ n=>
  unfold aQ at h
  split at h
  ·simp only[iE] at h;exact⟨cs,h.symm⟩
  ·simp only[aao] at h;obtain⟨cs',_,rfl⟩:=h;exact⟨cs',rfl⟩
theorem aeU {n:Nat} {σ:ah} {x v:V} (hx:∀cs,x≠ .agg cs) (h:aQ n σ x=some v):v.cells=[v]/\x.cells=[x]:=by
 have h2:x.cells=[x]:=by cases x<;>first|rfl|exact absurd rfl (hx _)
 refine⟨?_,h2⟩
 cases n with
 |zero=>simp[aQ] at h
 |succ n=>
  unfold aQ at h
  split at h
  ·simp only[iE] at h;subst h;exact h2
  ·split at h
   all_goals try (simp only[reduceCtorEq] at h;done)
   all_goals try (simp only[aao] at h;obtain⟨_,_,rfl⟩:=h;first|rfl|exact absurd rfl (hx _))
   all_goals try (simp only[iR,aao] at h;obtain⟨_,_,_,_,rfl⟩:=h;rfl)
   ·simp only[iR] at h
    obtain⟨_,_,h⟩:=h
    split at h
    ·simp only[iR] at h
     obtain⟨_,_,h⟩:=h
     split at h
     ·simp only[iE] at h;subst h;rfl
     ·simp at h
    ·simp at h
   ·simp only[iR] at h
    obtain⟨⟨ks,vs⟩,_,h⟩:=h
    simp only[iR,aao] at h
    obtain⟨_,_,_,_,rfl⟩:=h;rfl
theorem WO {E:Env} {B0:Nat} {σ:ah} (h:aV E B0 σ K w):∀(n:Nat) (v v':V) (c:Value),Rel K σ.top w v c->aQ n σ v=some v'->
 Rel (aP.lend (grow K.I B0 w) (sS K.IM B0 w)) T' w v' c:=by
 have vE:∀b o,K.I b o->grow K.I B0 w b o/\w.cell? (at_ b o)=w.cell? (at_ b o):=fun b o hi=>⟨⟨.inl hi,(h.I b o hi).1⟩,rfl⟩
 have xq:∀b,K.IM b->sS K.IM B0 w b/\w.heap[b]? =w.heap[b]? :=fun b hi=>⟨⟨.inl hi,(h.IM b hi).1⟩,rfl⟩
 intro n
 induction n with
 |zero=>intro v v' c _ hc;simp[aQ] at hc
 |succ n ih=>
  intro v v' c hr hc
  have hlist:∀(l l':List V) (val:Nat->Value),l.mapM (aQ n σ)=some l'->(∀i,i<l.length->Rel K σ.top w (l.getD i aC) (val i))->
   l'.length=l.length/\∀i,i<l'.length->Rel (aP.lend (grow K.I B0 w) (sS K.IM B0 w)) T' w (l'.getD i aC) (val i):=by
   intro l l' val hm hv
   obtain⟨h1,h2⟩:=mapM_some hm
   refine⟨h1.symm,fun i hi=> ?_⟩
   obtain⟨h3,h4⟩:=h2 i (by omega)
   have:=hv i (by omega)
   rw[iD (show i<l.length by omega)] at this
   rw[iD h3]
   exact ih _ _ _ this h4
  have hcells:∀(x x':V) (m:Nat) (val:Nat->Value),aQ n σ x=some x'->x.cells.length=m->(∀j,j<m->Rel K σ.top w (x.cells.getD j aC) (val j))->
   x'.cells.length=m/\∀j,j<m->Rel (aP.lend (grow K.I B0 w) (sS K.IM B0 w)) T' w (x'.cells.getD j aC) (val j):=by
   intro x x' m val hx hm hv
   by_cases hag:∃cs,x= .agg cs
   ·obtain⟨cs,rfl⟩:=hag
    obtain⟨cs',rfl⟩:=aeT hx
    have hm':cs.length=m:=hm
    have hcell:∀j,j<m->(Array.ofFn fun i:Fin m=>val i).getD j undef=val j:=fun j hj=>by simp[Array.getD,hj]
    have r:Rel K σ.top w (.agg cs) (.agg (Array.ofFn fun i:Fin m=>val i)):=.agg _ _ (by simpa using hm') (fun i hi=>by
     rw[hcell i (by omega)];exact hv i (by omega))
    obtain⟨g1,g2⟩:=aeS (ih _ _ _ r hx)
    have g1':cs'.length=m:=by simpa using g1
    exact⟨g1',fun j hj=>by have:=g2 j (by omega);rw[hcell j hj] at this;exact this⟩
   ·obtain⟨h1,h2⟩:=aeU (fun cs e=>hag ⟨cs,e⟩) hx
    rw[h2] at hm hv
    have hm1:m=1:=by simpa using hm.symm
    subst hm1
    rw[h1]
    refine⟨rfl,fun j hj=> ?_⟩
    have hj0:j=0:=by omega
    subst hj0
    exact ih _ _ _ (hv 0 (by omega)) hx
  have J9:∀loc s cs,σ.cB loc s=some cs->cs≠[]->∃vals t,w.heap[K.blk s]? =some (.cells vals t (0,0))/\vals.size=K.sz s/\cs.length<=vals.size/\B0<=K.blk s/\
   (∀i,i<cs.length->Rel K σ.top w (cs.getD i aC) (vals.getD i undef))/\∀i,i<vals.size->w.cell? (at_ (K.blk s) i)=some (vals.getD i undef):=by
   intro loc s cs hcs hne
   obtain⟨g1,_,_⟩:=h.rz hcs
   obtain⟨a1,a2,a3⟩:=h.obj _ _ _ g1
   obtain⟨b1,vals,t,b2,b3,b4,b5⟩:=a2.2 hne
   refine⟨vals,t,b2,b3,b4,b1,b5,fun i hi=> ?_⟩
   simp[World.cell?,b2,Array.getD,hi]
  unfold aQ at hc
  split at hc
  ·rename_i hp
   simp only[iE] at hc
   subst hc
   exact hr.pure hp vE xq
  ·cases hr with
   |dP c a ha hcn=>
    simp only[List.mapM_nil,Option.pure_def,Option.map_some,iE] at hc
    subst hc;exact .dP .sh a (fun h=>by cases h) trivial
   |aj c l b o m cap val hle hn hcell hrel hcap=>
    simp only[aao] at hc
    obtain⟨l',hm,rfl⟩:=hc
    obtain⟨h1,h2⟩:=mapM_some hm
    have hel:∀i,i<l'.length->(l'.getD i aC).cells.length=m/\∀j,j<m->Rel (aP.lend (grow K.I B0 w) (sS K.IM B0 w)) T' w ((l'.getD i aC).cells.getD j aC) (val i j):=by
     intro i hi
     obtain⟨h3,h4⟩:=h2 i (by omega)
     rw[iD h3]
     refine hcells _ _ m (val i) h4 ?_ (fun j hj=> ?_)
     ·have:=hn i (by omega);rwa[iD (show i<l.length by omega)] at this
     ·have:=hrel i j (by omega) hj;rwa[iD (show i<l.length by omega)] at this
    rw[h1]
    refine .aj .sh l' b o m cap val (by omega) (fun i hi=>(hel i hi).1) (fun i j hi hj=> ?_) (fun i j hi hj=>(hel i hi).2 j hj) trivial
    obtain⟨e1,e2⟩:=hcell i j (by omega) hj
    exact⟨e1,(vE _ _ e2).1⟩
   |agg cs vs hl hrel=>
    simp only[aao] at hc
    obtain⟨l',hm,rfl⟩:=hc
    obtain⟨h1,h2⟩:=hlist _ _ (fun i=>vs.getD i undef) hm hrel
    exact .agg _ _ (by omega) h2
   |bE cs vs hl hrel=>
    simp only[aao] at hc
    obtain⟨l',hm,rfl⟩:=hc
    obtain⟨h1,h2⟩:=hlist _ _ (fun i=>vs.getD i undef) hm hrel
    exact .bE _ _ (by omega) h2
   |aK cs off b o val hcell hrel=>
    simp only[aao] at hc
    obtain⟨l',hm,rfl⟩:=hc
    obtain⟨h1,h2⟩:=hlist _ _ val hm hrel
    exact .aK l' off b o val (fun j hj=>⟨(hcell j (by omega)).1,(vE _ _ (hcell j (by omega)).2).1⟩) h2
   |fn f a b av bv ha hb ra rb=>
    simp only[iR,aao] at hc
    obtain⟨a',hma,b',hmb,rfl⟩:=hc
    obtain⟨h1,h2⟩:=hlist _ _ (fun i=>av.getD i undef) hma ra
    obtain⟨h3,h4⟩:=hlist _ _ (fun i=>bv.getD i undef) hmb rb
    exact .fn f a' b' av bv (by omega) (by omega) h2 h4
   |ref loc s off hA=>
    simp only[iR,aao] at hc
    obtain⟨cs,hcs,cs',hm,rfl⟩:=hc
    have key:Rel (aP.lend (grow K.I B0 w) (sS K.IM B0 w)) T' w (.aK cs' off) (.pointer (some (at_ (K.blk s) (0+off)))):=by
     by_cases hne:cs=[]
     ·subst hne
      simp only[List.mapM_nil,Option.pure_def,iE] at hm
      subst hm
      exact .aK [] off _ 0 (fun _=>undef) (fun j hj=>absurd hj (aat j)) (fun j hj=>absurd hj (aat j))
     ·obtain⟨vals,t,e1,e2,e3,e4,e5,e6⟩:=J9 _ _ _ hcs hne
      obtain⟨h1,h2⟩:=hlist _ _ (fun i=>vals.getD i undef) hm e5
      refine .aK cs' off _ 0 (fun i=>vals.getD i undef) (fun j hj=> ?_) h2
      rw[ae5]
      exact⟨e6 j (by omega),.inr e4,_,e6 j (by omega)⟩
    rwa[ae5] at key
   |kZ loc s aS ag hA=>
    simp only[iR] at hc
    obtain⟨cs,hcs,hc⟩:=hc
    split at hc
    ·simp only[iR] at hc
     obtain⟨cs',hm,hc⟩:=hc
     split at hc
     ·simp only[iE] at hc
      subst hc;exact .dP .sh none (fun _=>rfl) trivial
     ·simp at hc
    ·simp at hc
   |vw loc s off len cap aS ag dD hA hcp hle hsz=>
    simp only[iR] at hc
    obtain⟨cs,hcs,hc⟩:=hc
    split at hc
    ·rename_i hlen
     simp only[iR] at hc
     obtain⟨cs',hm,hc⟩:=hc
     split at hc
     ·rename_i hag
      simp only[iE] at hc
      subst hc
      have Fx:ag=false->aS=1:=fun e=>by simp[e] at hag;exact hag.1
      have Fy:ag=false->bC cs'=true:=fun e=>by simp[e] at hag;exact hag.2
      have hl':((cs.drop off).take (len*aS)).length=len*aS:=by simp;omega
      by_cases hne:cs=[]
      ·subst hne
       have h0:len*aS=0:=by simp at hlen;omega
       have hd:(([]:List V).drop off).take (len*aS)=[]:=by simp
       rw[hd] at hm
       simp only[List.mapM_nil,Option.pure_def,iE] at hm
       subst hm
       exact Br (w:=w) (val:=fun _=>undef) Fx (by rw[h0];exact ael _) Fy (fun j hj=>by omega) (fun j hj=>by omega) (by omega) trivial
      ·obtain⟨vals,t,e1,e2,e3,e4,e5,e6⟩:=J9 _ _ _ hcs hne
       obtain⟨h1,h2⟩:=hlist _ _ (fun i=>vals.getD (off+i) undef) hm (fun i hi=>by
        rw[hl'] at hi
        rw[nN _ hi,pF]
        exact e5 _ (by omega))
       rw[hl'] at h1
       refine Br (w:=w) (val:=fun i=>vals.getD (off+i) undef) Fx (by omega) Fy (fun j hj=>⟨e6 _ (by omega),.inr e4,_,e6 _ (by omega)⟩) (fun j hj=>h2 j (by omega)) (by omega) trivial
     ·simp at hc
    ·simp at hc
   |bP loc s hA=>
    simp only[iR] at hc
    obtain⟨⟨ks,vs⟩,hmp,hc⟩:=hc
    simp only[iR,aao] at hc
    obtain⟨ks',hk,vs',hv,rfl⟩:=hc
    have iN:σ.obj loc=some (s,.map ks vs):=by
     unfold ah.fP at hmp
     split at hmp
     ·rename_i s' ks0 vs0 ho
      split at hmp
      ·rename_i hs
       simp only[iE,mF] at hmp
       obtain⟨rfl,rfl⟩:=hmp
       rw[ho,hs]
      ·simp at hmp
     ·simp at hmp
    obtain⟨_,⟨a1,es,bL,a2,a3,a4,a5,a6⟩,_⟩:=h.obj _ _ _ iN
    obtain⟨h1,h2⟩:=hlist _ _ (fun i=>(es.getD i default).key) hk (fun i hi=>a5 i (by omega))
    obtain⟨h3,h4⟩:=hlist _ _ (fun i=>(es.getD i default).val) hv (fun i hi=>a6 i (by omega))
    exact .dG ks' vs' _ es bL ⟨.inr a1,es,bL,a2⟩ a2 (by omega) (by omega) (fun i hi=>h2 i (by omega)) (fun i hi=>h4 i (by omega))
   |dG ks vs b es bL hM hb hk hv rk rv=>
    simp only[iR,aao] at hc
    obtain⟨ks',hk',vs',hv',rfl⟩:=hc
    obtain⟨h1,h2⟩:=hlist _ _ (fun i=>(es.getD i default).key) hk' (fun i hi=>rk i (by omega))
    obtain⟨h3,h4⟩:=hlist _ _ (fun i=>(es.getD i default).val) hv' (fun i hi=>rv i (by omega))
    exact .dG ks' vs' b es bL (xq b hM).1 hb (by omega) (by omega) (fun i hi=>h2 i (by omega)) (fun i hi=>h4 i (by omega))
   |iface t x c hx=>
    simp only[aao] at hc
    obtain⟨x',hx',rfl⟩:=hc
    exact .iface t x' c (ih _ _ _ hx hx')
   |_=>simp at hc
end
end Aq
end
section
namespace Aq
open Go Go.RowKit
def Ku (E:Env) (I:Nat->Nat->Prop) (IM:Nat->Prop) (w:World):Prop:=
 (∀b o,I b o->∃v,w.cell? (at_ b o)=some v)/\(∀b,IM b->∃es bL,w.heap[b]? =some (.map es bL))/\
 ∀g cs,E.glob g=some cs->Rel (aP.lend I IM) (fun _=>0) w (.aK cs 0) (.pointer (some (at_ g 0)))
def WQ (I:Nat->Nat->Prop) (IM:Nat->Prop) (w:World) (v:V):Ending->World->Prop
 |.returned c,w'=>Below w.heap.size w w'/\Rel (aP.lend (grow I w.heap.size w') (sS IM w.heap.size w')) (fun _=>0) w' v c
 |_,_=>False
def sU (E:Env) (f:FuncId) (args:List V) (v:V):Prop:=
 xk E f/\∀I IM w dB,Ku E I IM w->RelA (aP.lend I IM) (fun _=>0) w args dB->CallsIn Fence.wide 0 E.P f dB w (WQ I IM w v)
structure mH (E:Env):Prop where
 name:∀(f:FuncId) (fn:Func),E.P.funcs[f]? =some fn->fn.name≠ "runtime.NumGoroutine"
 jO:∀f g,E.jO f=some g->∀args v,g args=some v->sU E f args v
 mixed:E.P.follows .mixedOrders=true
 flat:∀g cs,E.glob g=some cs->aX cs=true
section
variable {E:Env} {S:jI} {K K':aP} {T T':Nat->Nat} {w w':World} {σ σ':ah} {B0:Nat}
theorem Rel.Kv {I:Nat->Nat->Prop} {IM:Nat->Prop} {v:V} {c:Value} (h:Rel (aP.lend I IM) T w v c) (hI:∀b o,I b o->K'.I b o/\w'.cell? (at_ b o)=w.cell? (at_ b o))
 (hM:∀b,IM b->K'.IM b/\w'.heap[b]? =w.heap[b]?):Rel K' T' w' v c:=by
 generalize hK:aP.lend I IM=K at h
 induction h with
 |int k n=>exact .int k n
 |bool b=>exact .bool b
 |str s b h=>exact .str s b h
 |fJ=>exact .fJ
 |fF=>exact .fF
 |eZ=>exact .eZ
 |gH=>exact .gH
 |agg cs vs hl _ ih=>exact .agg cs vs hl (fun i hi=>ih i hi)
 |bE cs vs hl _ ih=>exact .bE cs vs hl (fun i hi=>ih i hi)
 |dP c a ha hc=>
  cases c with
  |own n s=>subst hK;exact hc.1.elim
  |_=>exact .dP _ a ha trivial
 |aj c l b o n cap val hle hn hcell _ hc ih=>
  refine .aj c l b o n cap val hle hn (fun i j hi hj=> ?_) ih ?_
  ·obtain⟨h1,h2⟩:=hcell i j hi hj
   subst hK
   obtain⟨g1,g2⟩:=hI _ _ h2
   exact⟨g2.trans h1,g1⟩
  ·cases c with
   |own n s=>subst hK;exact hc.2.1.elim
   |sh=>trivial
   |full=>exact hc
   |nil=>exact hc
 |vw loc s off len cap aS ag dD hA hc hle hsz=>subst hK;exact hA.elim
 |kZ loc s aS ag hA=>subst hK;exact hA.elim
 |aK cs off b o val hcell _ ih=>
  refine .aK cs off b o val (fun j hj=> ?_) ih
  obtain⟨h1,h2⟩:=hcell j hj
  subst hK
  obtain⟨g1,g2⟩:=hI _ _ h2
  exact⟨g2.trans h1,g1⟩
 |ref loc s off hA=>subst hK;exact hA.elim
 |fn f a b av bv ha hb _ _ iha ihb=>exact .fn f a b av bv ha hb iha ihb
 |yield l hA=>subst hK;exact hA.elim
 |bP loc s hA=>subst hK;exact hA.elim
 |dG ks vs b es bL hM' hb hk hv _ _ ihk E5=>
  subst hK
  obtain⟨g1,g2⟩:=hM b hM'
  exact .dG ks vs b es bL g1 (g2.trans hb) hk hv ihk E5
 |iface t v c _ ih=>exact .iface t v c ih
 |raw v=>exact .raw v
theorem Kw {B b o:Nat} (h:Below B w w') (hb:b<B):w'.cell? (at_ b o)=w.cell? (at_ b o):=cell_of_heap (h.block b hb)
theorem WR {I:Nat->Nat->Prop} {IM:Nat->Prop} (h:Ku E I IM w):aV E w.heap.size ah.init (aP.lend I IM) w where
 obj loc s ob hs:=by simp[ah.init] at hs
 own s hs:=hs.elim
 I b o hi:=⟨h.1 b o hi,fun loc e=>by simp[aP.lend] at e⟩
 IM b hi:=⟨h.2.1 b hi,fun loc e=>by simp[aP.lend] at e⟩
 loop l r hl:=by simp[ah.init] at hl
 glob g cs hg:=by
  have:=h.2.2 g cs hg
  exact this.Kv (fun _ _ h=>⟨h,rfl⟩) (fun _ h=>⟨h,rfl⟩)
 rb b r hr:=by simp[aP.lend] at hr
 D b hd:=hd.elim
theorem WS (hE:mH E) (hS:Fz E S.call) {f:FuncId} {args:List V} {v:V} (h:jJ E S f args=some v):sU E f args v:=by
 unfold jJ at h
 split at h
 ·rename_i g hg
  exact hE.jO f g hg args v h
 ·simp only[iR] at h
  obtain⟨⟨v0,σ1⟩,hc,h⟩:=h
  obtain⟨_,hb,hs⟩:=hS _ _ _ _ _ _ hc
  refine⟨hb,fun I IM w dB hl hr=> ?_⟩
  have hr':RelA (aP.lend I IM) ah.init.top w args dB:=hr
  refine(hs none w.heap.size (aP.lend I IM) w dB (WR hl) (RS _) (fun s hs=>hs.elim) hr').mono ?_
  intro e w' hp
  cases e with
  |returned c=>
   obtain⟨K1,r1,s1,_,st⟩:=hp
   refine⟨st.below, ?_⟩
   have:=WO (T':=fun _=>0) s1 20 v0 v c r1 h
   refine this.Kv (fun b o hi=>⟨⟨?_,hi.2⟩,rfl⟩) (fun b hi=>⟨⟨?_,hi.2⟩,rfl⟩)
   ·rcases hi.1 with h1|h1
    ·exact st.nI b o h1
    ·exact .inr h1
   ·rcases hi.1 with h1|h1
    ·exact st.wU b h1
    ·exact .inr h1
  |panicked ch=>exact hp.elim
  |outgrown=>exact hp.elim
theorem Step.grow (h:aV E B0 σ K w) (hB:B0<=w.heap.size) {new:Nat->Prop} (hb:Below w.heap.size w w'):
 Step E B0 new σ K w σ {K with I:=Aq.grow K.I w.heap.size w',IM:=sS K.IM w.heap.size w'} w':=by
 have vE:∀b o,K.I b o->w'.cell? (at_ b o)=w.cell? (at_ b o):=fun b o hi=>Kw hb (lt_of_cell (h.I b o hi).1.choose_spec)
 have xq:∀b,K.IM b->w'.heap[b]? =w.heap[b]? :=fun b hi=>by
  obtain⟨⟨es,bL,h1⟩,_⟩:=h.IM b hi
  exact hb.block b (lt_of_heap h1)
 have e:Ext K σ.top w {K with I:=Aq.grow K.I w.heap.size w',IM:=sS K.IM w.heap.size w'} σ.top w':=
  ⟨fun _ h=>⟨h,rfl,rfl,rfl⟩,fun _ _=>.inl ⟨rfl,rfl,rfl,rfl⟩,fun b o hi=>⟨⟨.inl hi,by rw[vE b o hi];exact(h.I b o hi).1⟩,vE b o hi⟩,
    fun b hi=>⟨⟨.inl hi,by rw[xq b hi];exact(h.IM b hi).1⟩,xq b hi⟩⟩
 refine⟨⟨fun loc s ob hs=> ?_,fun s hs hl=> ?_,fun b o hi=>⟨hi.2, ?_⟩,fun b hi=>⟨hi.2, ?_⟩,fun l r hl=> ?_,fun g cs hg=>(h.glob g cs hg).ext e,fun b r hr=> ?_,fun b hd=> ?_⟩,e,
  ⟨hb.os,hb.tape,hb.output,hb.size,fun k hk=>hb.block k (by omega)⟩,fun _ h=>h,fun _ h=>.inl h,fun b o hi=>hi.1.imp id (by omega),fun b hi=>hi.1.imp id (by omega)⟩
 ·obtain⟨a1,a2,a3⟩:=h.obj loc s ob hs
  exact⟨a1,a2.ext e a1 (fun hr=>hb.block _ (h.rb _ _ (a3 hr)).1),a3⟩
 ·obtain⟨a1,a2,a3⟩:=h.own s hs hl
  have hlt:=(h.rb _ _ a2).1
  refine⟨a1,a2,fun o h1 h2=> ?_⟩
  obtain⟨c1,⟨v,c2⟩,c3⟩:=a3 o h1 h2
  refine⟨fun hi=> ?_,⟨v,(Kw hb hlt).trans c2⟩, ?_⟩
  ·rcases hi.1 with h1|h1
   ·exact c1 h1
   ·have:w.heap.size<=K.ob s:=h1
    omega
  ·rw[frozen_of_heap (hb.block _ hlt)];exact c3
 ·intro loc hρ
  rcases hi.1 with h1|h1
  ·exact(h.I b o h1).2 loc hρ
  ·have:=(h.rb _ _ hρ).1;omega
 ·intro loc hρ
  rcases hi.1 with h1|h1
  ·exact(h.IM b h1).2 loc hρ
  ·have:=(h.rb _ _ hρ).1;omega
 ·obtain⟨a1,a2⟩:=h.loop l r hl
  exact⟨a1,a2.ext e a1 (hb.block _ (h.rb _ _ a2.2.1).1) rfl⟩
 ·have:=h.rb b r hr;exact⟨adV this.1 hb.size,this.2⟩
 ·have:=h.D b hd
  rw[hb.block b (lt_of_heap this)];exact this
def aP.lY (K:aP) (B:Nat) (w':World) (st ob lo hi:Nat):aP:=
 {K with A:=fun x=>K.A x\/x=st,ob:=upd K.ob st ob,lo:=upd K.lo st lo,hi:=upd K.hi st hi,I:=fun b o=>Aq.grow K.I B w' b o/\¬(b=ob/\lo<=o/\o<hi),IM:=sS K.IM B w',ρ:=fun b=>if b=ob/\lo<hi then some (.own st) else K.ρ b}
theorem Step.lY (h:aV E B0 σ K w) (hB:B0<=w.heap.size) {st T1:Nat} (hst:¬K.A st) (hb:Below w.heap.size w w') {ob lo hi:Nat}
 (ho:lo<hi->w.heap.size<=ob/\∀o,lo<=o->o<hi->(∃v,w'.cell? (at_ ob o)=some v)/\w'.frozen? (at_ ob o)=false):
 Step E B0 (· =st) σ K w (σ.bU st T1) (K.lY w.heap.size w' st ob lo hi) w':=by
 have vE:∀b o,K.I b o->w'.cell? (at_ b o)=w.cell? (at_ b o):=fun b o hi=>Kw hb (lt_of_cell (h.I b o hi).1.choose_spec)
 have xq:∀b,K.IM b->w'.heap[b]? =w.heap[b]? :=fun b hi=>by
  obtain⟨⟨es,bL,h1⟩,_⟩:=h.IM b hi
  exact hb.block b (lt_of_heap h1)
 have hne:∀x,K.A x->x≠st:=fun x hx e=>hst (e▸hx)
 have QJ:∀b,b<w.heap.size->(K.lY w.heap.size w' st ob lo hi).ρ b=K.ρ b:=fun b hbl=>by
  show (if b=ob/\lo<hi then some (Bj.own st) else K.ρ b)=K.ρ b
  rw[if_neg]
  rintro⟨rfl,h2⟩
  have:=(ho h2).1
  omega
 have hold:∀b o,b<w.heap.size->¬(b=ob/\lo<=o/\o<hi):=by
  rintro b o hbl ⟨rfl,h2,h3⟩
  have:=(ho (by omega)).1
  omega
 have e:Ext K σ.top w (K.lY w.heap.size w' st ob lo hi) (σ.bU st T1).top w':=
  ⟨fun _ h=>⟨.inl h,rfl,rfl,rfl⟩,fun x hx=>.inl ⟨upd_ne _ _ (hne x hx),upd_ne _ _ (hne x hx),upd_ne _ _ (hne x hx),upd_ne _ _ (hne x hx)⟩,
    fun b o hi=>⟨⟨⟨.inl hi,by rw[vE b o hi];exact(h.I b o hi).1⟩,hold b o (lt_of_cell (h.I b o hi).1.choose_spec)⟩,vE b o hi⟩,
    fun b hi=>⟨⟨.inl hi,by rw[xq b hi];exact(h.IM b hi).1⟩,xq b hi⟩⟩
 refine⟨⟨fun loc s x hs=> ?_,fun s hs hl=> ?_,fun b o hq=>⟨hq.1.2, ?_⟩,fun b hq=>⟨hq.2, ?_⟩,fun l r hl=> ?_,fun g cs hg=>(h.glob g cs hg).ext e,fun b r hr=> ?_,fun b hd=> ?_⟩,e,
  ⟨hb.os,hb.tape,hb.output,hb.size,fun k hk=>hb.block k (by omega)⟩,fun _ h=>h,fun _ h=>h,fun b o hi=>hi.1.1.imp id (by omega),fun b hi=>hi.1.imp id (by omega)⟩
 ·obtain⟨a1,a2,a3⟩:=h.obj loc s x hs
  refine⟨.inl a1,a2.ext e a1 (fun hr=>hb.block _ (h.rb _ _ (a3 hr)).1),fun hr=> ?_⟩
  show (K.lY w.heap.size w' st ob lo hi).ρ (K.blk s)=_
  rw[QJ _ (h.rb _ _ (a3 hr)).1];exact a3 hr
 ·by_cases hxs:s=st
  ·subst hxs
   have q1:(K.lY w.heap.size w' s ob lo hi).ob s=ob:=upd_same _ _ _
   have q2:(K.lY w.heap.size w' s ob lo hi).lo s=lo:=upd_same _ _ _
   have q3:(K.lY w.heap.size w' s ob lo hi).hi s=hi:=upd_same _ _ _
   rw[q2,q3] at hl
   obtain⟨o1,o2⟩:=ho hl
   refine⟨by rw[q1];omega, ?_,fun o h1 h2=> ?_⟩
   ·rw[q1]
    show (if ob=ob/\lo<hi then some (Bj.own s) else K.ρ ob)=_
    rw[if_pos ⟨rfl,hl⟩]
   ·rw[q2] at h1;rw[q3] at h2;rw[q1]
    exact⟨fun hI=>hI.2 ⟨rfl,h1,h2⟩,(o2 o h1 h2).1,(o2 o h1 h2).2⟩
  ·have hA:K.A s:=hs.resolve_right hxs
   have q1:(K.lY w.heap.size w' st ob lo hi).ob s=K.ob s:=upd_ne _ _ hxs
   have q2:(K.lY w.heap.size w' st ob lo hi).lo s=K.lo s:=upd_ne _ _ hxs
   have q3:(K.lY w.heap.size w' st ob lo hi).hi s=K.hi s:=upd_ne _ _ hxs
   rw[q2,q3] at hl
   obtain⟨a1,a2,a3⟩:=h.own s hA hl
   have hlt:=(h.rb _ _ a2).1
   refine⟨by rw[q1];exact a1,by rw[q1,QJ _ hlt];exact a2,fun o h1 h2=> ?_⟩
   rw[q2] at h1;rw[q3] at h2;rw[q1]
   obtain⟨c1,⟨v,c2⟩,c3⟩:=a3 o h1 h2
   refine⟨fun hi=> ?_,⟨v,(Kw hb hlt).trans c2⟩, ?_⟩
   ·rcases hi.1.1 with h1|h1
    ·exact c1 h1
    ·omega
   ·rw[frozen_of_heap (hb.block _ hlt)];exact c3
 ·intro loc hρ
  have vF:(if b=ob/\lo<hi then some (Bj.own st) else K.ρ b)=some (.obj loc):=hρ
  split at vF
  ·cases vF
  ·rcases hq.1.1 with h1|h1
   ·exact(h.I b o h1).2 loc vF
   ·have:=(h.rb _ _ vF).1;omega
 ·intro loc hρ
  have vF:(if b=ob/\lo<hi then some (Bj.own st) else K.ρ b)=some (.obj loc):=hρ
  split at vF
  ·cases vF
  ·rcases hq.1 with h1|h1
   ·exact(h.IM b h1).2 loc vF
   ·have:=(h.rb _ _ vF).1;omega
 ·obtain⟨a1,a2⟩:=h.loop l r hl
  exact⟨.inl a1,a2.ext e a1 (hb.block _ (h.rb _ _ a2.2.1).1) (QJ _ (h.rb _ _ a2.2.1).1)⟩
 ·have hr':(if b=ob/\lo<hi then some (Bj.own st) else K.ρ b)=some r:=hr
  split at hr'
  ·rename_i hc
   obtain⟨o1,o2⟩:=ho hc.2
   obtain⟨⟨v,hv⟩,_⟩:=o2 lo (RS _) hc.2
   rw[hc.1]
   exact⟨lt_of_cell hv,by omega⟩
  ·have:=h.rb b r hr';exact⟨adV this.1 hb.size,this.2⟩
 ·have:=h.D b hd
  rw[hb.block b (lt_of_heap this)];exact this
end
end Aq
end
section
namespace Aq
open Go Go.RowKit
section
variable {E:Env} {S:jI} {K K':aP} {w w':World} {σ σ':ah} {B0:Nat}
theorem QK (w:World) (b:Nat) (o:Obj):Only b w (w.putObj b o):=⟨rfl,rfl,rfl,by simp,fun _ hk _=>World.putObj_heap_other hk⟩
theorem Step.fO (h:aV E B0 σ K w) (hB:B0<=w.heap.size) {new:Nat->Prop} {l:Nat} {r r':nY} (hl:σ.loops l=some r) (h1:r'.fr=r.fr) (h2:r'.ps=r.ps) (h3:r'.dS=r.dS) (h4:r'.body=r.body)
 {rec:Go.Loop} (hr:w.heap[K.lp l]? =some (.loop rec)):
 Step E B0 new σ K w (σ.fO l r') K (w.putObj (K.lp l) (.loop {rec with state:=pz r'.st,pending:=r'.pend.bind qE})):=by
 obtain⟨hA,hb0,hρ,fn,tmps,D,hh,hf,hok⟩:=h.loop l r hl
 have hrec:rec={state:=pz r.st,pending:=r.pend.bind qE,fn:=fn,tmps:=tmps,params:=r.ps.toArray,assign:=r.dS,body:=r.body,defers:=D}:=by
  rw[hh] at hr;simpa using hr.symm
 have hlt:=lt_of_heap hr
 have ho:=QK w (K.lp l) (.loop {rec with state:=pz r'.st,pending:=r'.pend.bind qE})
 have hnew:(w.putObj (K.lp l) (.loop {rec with state:=pz r'.st,pending:=r'.pend.bind qE})).heap[K.lp l]? =some (.loop {rec with state:=pz r'.st,pending:=r'.pend.bind qE}):=World.putObj_heap_same hlt
 have hcell:∀b o v,w.cell? (at_ b o)=some v->b≠K.lp l:=fun b o v hv e=>by
  subst e
  simp[World.cell?,hr] at hv
 have e:Ext K σ.top w K σ.top (w.putObj (K.lp l) (.loop {rec with state:=pz r'.st,pending:=r'.pend.bind qE})):=by
  refine⟨fun _ h=>⟨h,rfl,rfl,rfl⟩,fun _ _=>.inl ⟨rfl,rfl,rfl,rfl⟩,fun b o hi=>⟨hi, ?_⟩,fun b hi=>⟨hi, ?_⟩⟩
  ·obtain⟨⟨v,hv⟩,_⟩:=h.I b o hi
   exact cell_of_heap (ho.block b (hcell b o v hv) (lt_of_cell hv))
  ·obtain⟨⟨es,bL,hv⟩,_⟩:=h.IM b hi
   exact ho.block b (pE hv hr (by simp)) (lt_of_heap hv)
 refine⟨?_,e,ho.below hb0 hB,fun _ h=>h,fun _ h=>.inl h,fun _ _ h=>.inl h,fun _ h=>.inl h⟩
 refine h.upd (σ':=σ.fO l r') ho e (fun _ _=>rfl) (fun r hr'=>⟨by simpa using hlt,hb0⟩) ?_ ?_ ?_ ?_ ?_ ?_
 ·intro loc s ob hs
  refine .inl ⟨hs,fun kr=> ?_⟩
  intro e'
  have:=(h.obj loc s ob hs).2.2 kr
  rw[e',hρ] at this
  cases this
 ·intro s hs hlt'
  refine .inl ⟨hs,rfl,rfl,rfl,fun e'=> ?_⟩
  have:=(h.own s hs hlt').2.1
  rw[e',hρ] at this
  cases this
 ·intro b' o hi
  obtain⟨⟨v,hv⟩,_⟩:=h.I b' o hi
  exact .inl ⟨hi,hcell b' o v hv⟩
 ·intro b' hi
  obtain⟨⟨es,bL,hv⟩,_⟩:=h.IM b' hi
  exact .inl ⟨hi,pE hv hr (by simp)⟩
 ·intro l' r1 hl'
  by_cases hll:l'=l
  ·subst hll
   right
   have hr1:r'=r1:=by simpa [ah.fO,upd] using hl'
   subst hr1
   refine⟨hA,hb0,hρ,fn,tmps,D, ?_, ?_, ?_⟩
   ·rw[hnew,hrec,h2,h3,h4]
   ·rw[h1];exact hf.ext e
   ·rw[h2,h3,h4];exact hok
  ·left
   have hl1:σ.loops l'=some r1:=by simpa [ah.fO,upd,hll] using hl'
   refine⟨hl1,fun e'=> ?_⟩
   have:=(h.loop l' r1 hl1).2.2.1
   rw[e',hρ] at this
   cases this
   exact hll rfl
 ·intro b' hd
  exact .inl ⟨hd,pE (h.D b' hd) hr (by simp)⟩
theorem aeV {T:Nat->Nat}:∀(ps:List Nat) (args:List V) (cs:List Value) (fr:Fr) (tmps:Array Value),ps.length=args.length->args.length=cs.length->kg K T w fr tmps->(∀i,i<args.length->Rel K T w (args.getD i aC) (cs.getD i undef))->
 (∀p∈ps,p<tmps.size)->kg K T w {fr with tm:=(ps.zip args).foldl (fun tm (p,a)=>upd tm p a) fr.tm} ((ps.zip cs).foldl (fun tmps (t,a)=>tmps.setIfInBounds t a) tmps)/\
   ((ps.zip cs).foldl (fun tmps (t,a)=>tmps.setIfInBounds t a) tmps).size=tmps.size:=by
 intro ps
 induction ps with
 |nil=>intro args cs fr tmps _ _ hf _ _;exact⟨hf,rfl⟩
 |cons p ps ih=>
  intro args cs fr tmps hl hl2 hf hr hp
  cases args with
  |nil=>simp at hl
  |cons a args=>
   cases cs with
   |nil=>simp at hl2
   |cons c cs=>
    have hput:=kg.put (K:=K) (w:=w) (T:=T) (a:={tmps:=tmps,defers:=[]}) hf (d:=some p) (v:=a) (c:=c) (hr 0 (by simp)) (fun i hi=>by cases hi;exact hp p (by simp))
    have:=ih args cs (fr.set p a) (tmps.setIfInBounds p c) (by simpa using hl) (by simpa using hl2) hput (fun i hi=>hr (i+1) (by simpa using hi)) (fun q hq=>by simpa using hp q (by simp[hq]))
    refine⟨this.1,this.2.trans (by simp)⟩
theorem zip_toArray (ps:List Nat) (cs:Array Value) (tmps:Array Value):
 (ps.toArray.zip cs).foldl (fun tmps (t,a)=>tmps.setIfInBounds t a) tmps=(ps.zip cs.toList).foldl (fun tmps (t,a)=>tmps.setIfInBounds t a) tmps:=by
 rw[<-Array.foldl_toList]
 congr 1
 simp
theorem aeW (hS:Kr E S.code) (h:aV E B0 σ K w) (hB:B0<=w.heap.size) (hA:∀s,K.A s->s<σ.next) {l:Nat} {args:List V} {dB:Array Value} {v:V}
 (hv:sN S l args σ=some (v,σ')) (ra:RelA K σ.top w args dB):
 σ.next<=σ'.next/\∃fn tmps dS body,(Instr.yield (K.lp l) dB).run E.P w= .ok (.round (K.lp l) fn tmps dS body) w/\RoundIn Fence.wide 0 E.P (K.lp l) fn tmps dS body w (xg E B0 σ K w v σ'):=by
 unfold sN at hv
 simp only[iR] at hv
 obtain⟨r,hl,hv⟩:=hv
 split at hv
 ·rename_i hst
  simp only[iR] at hv
  obtain⟨⟨e1,bQ,σ1⟩,FB,hv⟩:=hv
  cases e1 with
  |normal=>
   simp only[iR] at hv
   obtain⟨r1,hl1,hv⟩:=hv
   split at hv
   ·rename_i xu
    simp only[iR] at hv
    obtain⟨⟨e2,fK,σ2⟩,hbody,r2,hl2,hv⟩:=hv
    split at hv
    ·rename_i aqz
     obtain⟨hKl,hb0,hρ,fn,tmps,D,hh,hf,hok1,hok2,hps,hn1,hn2⟩:=h.loop l r hl
     obtain⟨hle1,hw1⟩:=hS _ _ _ _ _ _ FB
     obtain⟨hle2,hw2⟩:=hS _ _ _ _ _ _ hbody
     have aeY:σ1.next<=σ2.next:=hle2
     have hnext:σ'.next=σ2.next:=by
      cases e2<;>simp only[iE,mF] at hv<;>obtain⟨_,rfl⟩:=hv<;>rfl
     refine⟨by omega, ?_⟩
     have hsz:dB.size=r.ps.length:=by have:=ra.1;omega
     have QL:=run_yield (P:=E.P) (args:=dB) hh (by simpa using hsz)
     refine⟨_,_,_,_,QL, ?_⟩
     dsimp only
     rw[zip_toArray]
     have QM:=aeV (K:=K) (w:=w) (T:=σ.top) r.ps args dB.toList r.fr tmps hst.2 (by have:=ra.1;simpa using this) hf (fun i hi=>by rw[Kj];exact ra.2 i hi) hps
     generalize htm:(r.ps.zip dB.toList).foldl (fun tmps (t,a)=>tmps.setIfInBounds t a) tmps=aeZ at QM
     refine roundIn_of_wpIn trivial ?_
     have hs0:St E B0 σ K w {r.fr with tm:=(r.ps.zip args).foldl (fun tm (p,a)=>upd tm p a) r.fr.tm} {tmps:=aeZ,defers:=[]} tmps.size ⟨[],0,true⟩:=
      ⟨h,hB,QM.1,QM.2,⟨[],rfl,List.nodup_nil,(fun b hb=>by cases hb),fun _=>rfl⟩,hA,ael _⟩
     refine wpIn_mono (hw1 (some (K.lp l)) B0 K w _ tmps.size ⟨[],0,true⟩ hs0 hok1 (.inr hn1)) ?_
     rintro x a1 w1 ⟨hx,K1,hs1,st1⟩
     cases x<;>simp only[ow] at hx
     obtain⟨ae0,hb1,hρ1,WT,WU,D1,WV,hf1,_⟩:=hs1.ok.loop l r1 hl1
     have BH:K1.lp l=K.lp l:=(st1.ext.A l hKl).2.2.1
     have hbr:=run_beginRound (P:=E.P) WV (by simp[pz,xu])
     have Ky:=Step.fO (new:=newer σ1 (σ1.fO l {r1 with st:=1})) hs1.ok hs1.hB (r':={r1 with st:=1}) hl1 rfl rfl rfl rfl WV
     rw[BH] at hbr
     refine⟨_,hbr, ?_⟩
     have ae1:(w1.putObj (K.lp l) (.loop {state:=LoopState.busy,pending:=r1.pend.bind qE,fn:=WT,tmps:=WU,params:=r1.ps.toArray,assign:=r1.dS,body:=r1.body,defers:=D1}))=
      (w1.putObj (K1.lp l) (.loop {({state:=pz r1.st,pending:=r1.pend.bind qE,fn:=WT,tmps:=WU,params:=r1.ps.toArray,assign:=r1.dS,body:=r1.body,defers:=D1}:Go.Loop) with state:=pz 1,pending:=r1.pend.bind qE})):=by
      rw[BH];rfl
     dsimp only
     rw[ae1]
     have ae2:St E B0 (σ1.fO l {r1 with st:=1}) K1 _ bQ a1 tmps.size ⟨[],0,true⟩:=
      ⟨Ky.ok,aav hs1.hB Ky.below.size,hs1.fr.ext Ky.ext,hs1.sz,hs1.df,hs1.st,ael _⟩
     have st01:=Step.trans (new:=newer σ σ1) st1 (Ky.mono (fun s hs=>by have h1:σ1.next<=s:=hs.1;have h2:s<σ1.next:=hs.2;omega))
     refine wpIn_mono (hw2 (some (K.lp l)) B0 K1 _ a1 tmps.size ⟨[],0,true⟩ ae2 hok2 (.inr hn2)) ?_
     rintro x a2 w2 ⟨hx2,K2,hs2,st2⟩
     obtain⟨aqC,hb2,hρ2,fn2,ae4,D2,WW,hf2,_⟩:=hs2.ok.loop l r2 hl2
     have Kz:K2.lp l=K.lp l:=((st2.ext.A l ae0).2.2.1).trans BH
     have pG:Step E B0 (newer σ σ2) σ K w σ2 K2 w2:=by
      refine(st01.mono ?_).trans (st2.mono ?_)
      ·intro s hs;exact⟨hs.1,adV hs.2 aeY⟩
      ·intro s hs;exact⟨aav hle1 hs.1,hs.2⟩
     have fin:∀(r':nY) (b:Bool),r'.fr=r2.fr->r'.ps=r2.ps->r'.dS=r2.dS->r'.body=r2.body->σ'=σ2.fO l r'->v= .bool b->
      xg E B0 σ K w v σ' (.returned (.bool b)) (w2.putObj (K2.lp l) (.loop {({state:=pz r2.st,pending:=r2.pend.bind qE,fn:=fn2,tmps:=ae4,params:=r2.ps.toArray,assign:=r2.dS,body:=r2.body,defers:=D2}:Go.Loop) with state:=pz r'.st,pending:=r'.pend.bind qE})):=by
      intro r' b h1 h2 h3 h4 h5 h6
      have stE:=Step.fO (new:=newer σ σ2) hs2.ok hs2.hB (r':=r') hl2 h1 h2 h3 h4 WW
      subst h5 h6
      have KC:=pG.trans stE
      exact⟨K2,.bool b,KC.ok,hs2.st,KC⟩
     have hend:=fun jump=>run_endRound (P:=E.P) jump WW
     rw[Kz] at hend
     cases e2 with
     |normal=>
      cases x<;>simp only[ow] at hx2
      simp only[iE,mF] at hv
      refine⟨_,_,hend none, ?_⟩
      have:=fin {r2 with st:=0,pend:=none} true rfl rfl rfl rfl hv.2.symm hv.1.symm
      rw[Kz] at this
      exact this
     |exit i=>
      cases x<;>simp only[ow] at hx2
      subst hx2
      simp only[iE,mF] at hv
      refine⟨_,_,hend (some (.exit i)), ?_⟩
      have:=fin {r2 with st:=2,pend:=some (.exit i)} false rfl rfl rfl rfl hv.2.symm hv.1.symm
      rw[Kz] at this
      exact this
     |ret=>
      cases x<;>simp only[ow] at hx2
      simp only[iE,mF] at hv
      refine⟨_,_,hend (some .ret), ?_⟩
      have:=fin {r2 with st:=2,pend:=some .ret} false rfl rfl rfl rfl hv.2.symm hv.1.symm
      rw[Kz] at this
      exact this
    ·simp at hv
   ·simp at hv
  |exit i=>simp at hv
  |ret=>simp at hv
 ·simp at hv
theorem ae6 (hS:Kr E S.code) {l:Nat} {args:List V} {v:V} (hv:sN S l args σ=some (v,σ')):σ.next<=σ'.next:=by
 unfold sN at hv
 simp only[iR] at hv
 obtain⟨r,hl,hv⟩:=hv
 split at hv
 ·simp only[iR] at hv
  obtain⟨⟨e1,bQ,σ1⟩,FB,hv⟩:=hv
  cases e1 with
  |normal=>
   simp only[iR] at hv
   obtain⟨r1,hl1,hv⟩:=hv
   split at hv
   ·simp only[iR] at hv
    obtain⟨⟨e2,fK,σ2⟩,hbody,r2,hl2,hv⟩:=hv
    split at hv
    ·have h1:=(hS _ _ _ _ _ _ FB).1
     have h2:σ1.next<=σ2.next:=(hS _ _ _ _ _ _ hbody).1
     have h3:σ'.next=σ2.next:=by
      cases e2<;>simp only[iE,mF] at hv<;>obtain⟨_,rfl⟩:=hv<;>rfl
     omega
    ·simp at hv
   ·simp at hv
  |exit i=>simp at hv
  |ret=>simp at hv
 ·simp at hv
end
end Aq
end
