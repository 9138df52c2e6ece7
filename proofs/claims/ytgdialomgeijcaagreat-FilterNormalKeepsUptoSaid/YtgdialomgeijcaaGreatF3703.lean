import Derived.ControlIn
import Derived.RangeFuncLeaves
import Derived.RangeFuncRecord
import Derived.Scope
import Derived.Test.YtgdialomgeijcaaGreatF3702
set_option linter.all false
section
namespace Aq
open Go Go.RowKit
section
variable {E:Env} {B0:Nat} {σ:Sig} {K:Con} {w:World} {new:Nat->Prop} {T:Nat->Nat}
def iw (E:Env) (B0:Nat) (new:Nat->Prop) (σ:Sig) (K:Con) (w:World) (s:Sem Next) (v:V) (σ':Sig):Prop:=
 ∃nx c w' K',s.run E.P w= .ok nx w'/\(nx= .value c\/(nx= .skip/\c=undef))/\Rel K' σ'.top w' v c/\Step E B0 new σ K w σ' K' w'
theorem iw.iy {s:Sem Value} {v:V} {σ':Sig} (h:Done E B0 new σ K w s v σ'):iw E B0 new σ K w (do pure (.value (<-s))) v σ':=by
 obtain⟨c,w',K',h1,h2,h3⟩:=h
 exact⟨.value c,c,w',K',by simp[h1],.inl rfl,h2,h3⟩
theorem iw.bU (h:ay E B0 σ K w) {s:Sem Value} {v:V} (hs:∃c,s.run E.P w= .ok c w/\Rel K σ.top w v c):iw E B0 new σ K w (do pure (.value (<-s))) v σ:=
 .iy (.bU h hs)
theorem iw.wF {s:Sem Unit} {σ':Sig} {K':Con} {w':World} (h:s.run E.P w= .ok () w') (hs:Step E B0 new σ K w σ' K' w'):iw E B0 new σ K w (do s;pure .skip) undefV σ':=
 ⟨.skip,undef,w',K',by simp[h],.inr ⟨rfl,rfl⟩,.undef _ _ _,hs⟩
theorem kX {fr:Fr} {a:Act} (h:ay E B0 σ K w) (hf:bT K σ.top w fr a.tmps) (xs:Array Operand):
 (xs.toList.map (fr.ev E)).length=(xs.map a.eval).size/\∀i,i< (xs.toList.map (fr.ev E)).length->Rel K σ.top w ((xs.toList.map (fr.ev E)).getD i undefV) ((xs.map a.eval).getD i undef):=by
 refine⟨by simp,fun i hi=>?_⟩
 have hi':i<xs.size:=by simpa using hi
 have e1:(xs.toList.map (fr.ev E)).getD i undefV=fr.ev E xs[i]:=by simp[List.getD,hi']
 have e2:(xs.map a.eval).getD i undef=a.eval xs[i]:=by simp[Array.getD,hi']
 rw[e1,e2]
 exact ig h hf _
theorem wG {v:V} {c:Value} {b:Bool} (hr:Rel K T w v c) (h:fA v=some b):c= .bool b:=by
 cases v<;>simp only[fA,reduceCtorEq,iE] at h
 subst h
 cases hr;rfl
theorem BG (h:ay E B0 σ K w) (hB:B0<=w.heap.size) {st:Nat} (hst:¬K.A st) (loc:Loc) (t:TypeId) {x:V} {cx:Value} (hx:Rel K σ.top w x cx) (hraw:notRaw x=true):
 Done E B0 (· =st) σ K w (do pure (.pointer (some (<-newVar t cx)))) (.ref loc st 0) (σ.setObj loc st (.cells x.cells)):=by
 obtain⟨h1,h2⟩:=jW hx hraw
 have hstep:=Step.su h hB hst loc (.cells x.cells) (.cells cx.cells t) cx.cells.size (fun K' e' _ hb' hs'=>
  ⟨fun h0=>by rw[hs',<-h1,h0];rfl,fun _=>⟨by rw[hb'];exact hB,_,t,by rw[hb'];exact heap_alloc_new w _,hs'.symm,by rw[h1];exact mF _,fun i hi=>(h2 i hi).ext e'⟩⟩)
 refine⟨.pointer (some (at_ w.heap.size 0)),_,_,by simp[newVar,newRow],?_,hstep⟩
 have key:Rel (K.dF st w.heap.size cx.cells.size loc) (σ.setObj loc st (.cells x.cells)).top (w.alloc (.cells cx.cells t)) (.ref loc st 0) (.pointer (some (at_ ((K.dF st w.heap.size cx.cells.size loc).blk st) 0))):=.ref loc st 0 (Or.inr rfl)
 have hblk:(K.dF st w.heap.size cx.cells.size loc).blk st=w.heap.size:=upd_same _ _ _
 rw[hblk] at key
 exact key
theorem Je (h:ay E B0 σ K w) (hB:B0<=w.heap.size) {st:Nat} (t:TypeId) {x:V} {cx:Value} (hx:Rel K σ.top w x cx) (hraw:notRaw x=true):
 Done E B0 (· =st) σ K w (do pure (.pointer (some (<-newVar t cx)))) (.cref x.cells 0) σ:=by
 obtain⟨h1,h2⟩:=jW hx hraw
 have hst:=Step.Av (new:=(· =st)) h hB cx.cells t (0,0)
 refine⟨.pointer (some (at_ w.heap.size 0)),_,_,by simp[newVar,newRow],?_,hst⟩
 have hcell:∀j,j<cx.cells.size->(w.alloc (.cells cx.cells t)).cell? (at_ w.heap.size (0+j))=some (cx.cells.getD j undef):=fun j hj=>by
  rw[Sr];exact pU hj
 exact .cref x.cells 0 w.heap.size 0 (fun j=>cx.cells.getD j undef) (fun j hj=>⟨hcell j (by omega),.inr ⟨rfl,by omega⟩⟩) (fun j hj=>(h2 j hj).ext hst.ext)
theorem Jf (h:ay E B0 σ K w) (hB:B0<=w.heap.size) {st:Nat} (hst:¬K.A st) (loc:Loc) (t:TypeId):
 Done E B0 (· =st) σ K w (Instr.makeMap t none) (.mapr loc st) (σ.setObj loc st (.map [] [])):=by
 have hstep:=Step.su h hB hst loc (.map [] []) (.map #[] 0) 0 (fun K' e' _ hb' hs'=>
  ⟨by rw[hb'];exact hB, #[],0,by rw[hb'];exact heap_alloc_new w _,rfl,rfl,fun i hi=>absurd hi (RI i),fun i hi=>absurd hi (RI i)⟩)
 refine⟨.map (some w.heap.size),_,_,by simp[Instr.makeMap],?_,hstep⟩
 have key:Rel (K.dF st w.heap.size 0 loc) (σ.setObj loc st (.map [] [])).top (w.alloc (.map #[] 0)) (.mapr loc st) (.map (some ((K.dF st w.heap.size 0 loc).blk st))):=.mapr loc st (Or.inr rfl)
 have hblk:(K.dF st w.heap.size 0 loc).blk st=w.heap.size:=upd_same _ _ _
 rw[hblk] at key
 exact key
def Con.freeze (K:Con) (b n:Nat):Con:={K with I:=fun b' o=>K.I b' o\/(b'=b/\o<n),ρ:=upd K.ρ b none}
theorem BH (K:Con) (T:Nat->Nat) (w:World) (b n:Nat):Ext K T w (K.freeze b n) T w:=
 ⟨fun _ h=>⟨h,rfl,rfl,rfl⟩,fun _ _=>.inl ⟨rfl,rfl,rfl,rfl⟩,fun _ _ h=>⟨.inl h,rfl⟩,fun _ h=>⟨h,rfl⟩⟩
theorem Step.freeze (h:ay E B0 σ K w) {loc:Loc} {s:Nat} {cs:List V} (hs:σ.obj loc=some (s,.cells cs)) (hne:cs≠[]) {n:Nat} (hn:∀i,i<n->∃v,w.cell? (at_ (K.blk s) i)=some v):
 Step E B0 new σ K w (σ.bR loc) (K.freeze (K.blk s) n) w:=by
 obtain⟨a1,a2,a3⟩:=h.obj loc s _ hs
 obtain⟨b1,_⟩:=a2.2 hne
 have hρ:K.ρ (K.blk s)=some (.obj loc):=a3 (by cases cs with|nil=>exact absurd rfl hne|cons _ _=>trivial)
 have e:=BH K σ.top w (K.blk s) n
 have hne':∀b r,K.ρ b=some r->r≠ .obj loc->b≠K.blk s:=fun b r h1 h2 e=>by
  rw[e,hρ] at h1
  exact h2 (R6 h1).symm
 refine⟨⟨fun loc' s' ob hs'=>?_,fun s' hA hlt=>?_,fun b o hi=>?_,fun b hi=>?_,fun l r hl=>?_,fun g cs hg=>(h.glob g cs hg).ext e,fun b r hr=>?_,h.D⟩,e,.refl _ _,fun _ h=>h,fun _ h=>.inl h,fun b o hi=>?_,fun _ h=>.inl h⟩
 ·by_cases hl:loc'=loc
  ·subst hl;simp[Sig.bR,upd_same] at hs'
  ·simp only[Sig.bR,upd_ne _ _ hl] at hs'
   obtain⟨g1,g2,g3⟩:=h.obj loc' s' ob hs'
   refine⟨g1,g2.ext e g1 (fun _=>rfl),fun hr=>?_⟩
   have h1:=g3 hr
   have h2:K.blk s'≠K.blk s:=hne' _ _ h1 (fun e=>hl (by cases e;rfl))
   show upd K.ρ (K.blk s) none (K.blk s')=_
   rw[upd_ne _ _ h2];exact h1
 ·obtain⟨g1,g2,g3⟩:=h.own s' hA hlt
  have h2:K.ob s'≠K.blk s:=hne' _ _ g2 (fun e=>by cases e)
  refine⟨g1,?_,fun o h3 h4=>?_⟩
  ·show upd K.ρ (K.blk s) none (K.ob s')=_
   rw[upd_ne _ _ h2];exact g2
  ·obtain⟨c1,c2,c3⟩:=g3 o h3 h4
   exact⟨fun hi=>hi.elim c1 (fun hi=>h2 hi.1),c2,c3⟩
 ·have hk:∀loc',(K.freeze (K.blk s) n).ρ b≠some (.obj loc')\/K.ρ b=some (.obj loc'):=fun loc'=>by
   by_cases hb:b=K.blk s
   ·left;show upd K.ρ (K.blk s) none b≠_
    rw[hb,upd_same];simp
   ·by_cases hq:K.ρ b=some (.obj loc')
    ·exact .inr hq
    ·left;show upd K.ρ (K.blk s) none b≠_
     rw[upd_ne _ _ hb];exact hq
  rcases hi with hi| ⟨rfl,hi⟩
  ·obtain⟨g1,g2⟩:=h.I b o hi
   exact⟨g1,fun loc'=>(hk loc').resolve_right (g2 loc')⟩
  ·refine⟨hn o hi,fun loc'=>?_⟩
   show upd K.ρ (K.blk s) none (K.blk s)≠_
   rw[upd_same];simp
 ·obtain⟨g1,g2⟩:=h.IM b hi
  refine⟨g1,fun loc'=>?_⟩
  show upd K.ρ (K.blk s) none b≠_
  by_cases hb:b=K.blk s
  ·rw[hb,upd_same];simp
  ·rw[upd_ne _ _ hb];exact g2 loc'
 ·obtain⟨g1,g2⟩:=h.loop l r hl
  have h2:K.lp l≠K.blk s:=hne' _ _ g2.2.1 (fun e=>by cases e)
  exact⟨g1,g2.ext e g1 rfl (upd_ne _ _ h2)⟩
 ·have hr':upd K.ρ (K.blk s) none b=some r:=hr
  by_cases hb:b=K.blk s
  ·rw[hb,upd_same] at hr';cases hr'
  ·rw[upd_ne _ _ hb] at hr';exact h.rb b r hr'
 ·rcases hi with hi| ⟨rfl,_⟩
  ·exact .inl hi
  ·exact .inr b1
theorem Jg (h:ay E B0 σ K w) {x v:V} {c:Value} {σ':Sig} (hr:Rel K σ.top w x c) (hv:jg σ x=some (v,σ')):∃K',Rel K' σ'.top w v c/\Step E B0 new σ K w σ' K' w:=by
 unfold jg at hv
 split at hv
 ·rename_i loc s off len cap au ag
  simp only[iP] at hv
  obtain⟨cs,hcs,hv⟩:=hv
  split at hv
  ·rename_i hc
   obtain⟨hlen,hag⟩:=hc
   simp only[iE,iR] at hv
   obtain⟨rfl,rfl⟩:=hv
   have qb:ag=false->au=1:=fun e=>by simp[e] at hag;exact hag.1
   have qc:ag=false->oneCells (((cs.drop off).take (len*au)).map bn)=true:=fun e=>by simp only[e,Bool.false_or,RD] at hag;exact hag.2
   cases hr with
   |dM _ _ _ _ hA=>
    exact⟨K,.aV .sh none (fun _=>rfl) trivial,.bR h loc⟩
   |vw _ _ _ _ _ _ _ aM hA hcp hle hsz=>
    by_cases hne:cs=[]
    ·subst hne
     have h0:len*au=0:=by simp at hlen;omega
     refine⟨K,?_,.bR h loc⟩
     exact nQ (w:=w) (val:=fun _=>undef) qb (by rw[h0];exact Sb _) qc (fun j hj=>by omega) (fun j hj=>by omega) (by omega) trivial
    ·obtain⟨g1,_,_⟩:=h.iQ hcs
     obtain⟨a1,a2,a3⟩:=h.obj _ _ _ g1
     obtain⟨b1,vals,t,b2,b3,b4,b5⟩:=a2.2 hne
     have e6:∀i,i<vals.size->w.cell? (at_ (K.blk s) i)=some (vals.getD i undef):=fun i hi=>by simp[World.cell?,b2,Array.getD,hi]
     refine⟨K.freeze (K.blk s) vals.size,?_,.freeze h g1 hne (fun i hi=>⟨_,e6 i hi⟩)⟩
     have hl':((cs.drop off).take (len*au)).length=len*au:=by simp;omega
     refine nQ (w:=w) (val:=fun i=>vals.getD (off+i) undef) qb (by simp;omega) qc (fun j hj=>⟨e6 _ (by omega),.inr ⟨rfl,by omega⟩⟩) (fun j hj=>?_) (by omega) trivial
     have hj':j< ((cs.drop off).take (len*au)).length:=by omega
     have e1:(((cs.drop off).take (len*au)).map bn).getD j undefV=bn (cs.getD (off+j) undefV):=by
      rw[<-gL,<-fM (cs.drop off) hj,bX (by simpa using hj'),bX hj'];simp
     rw[e1]
     exact(nV (b5 _ (by omega))).ext (BH _ _ _ _ _)
  ·simp at hv
 ·rename_i cc l
  simp only[iE,iR] at hv
  obtain⟨rfl,rfl⟩:=hv
  exact⟨K,nV hr,.refl h⟩
 ·simp only[iE,iR] at hv
  obtain⟨rfl,rfl⟩:=hv
  exact⟨K,hr,.refl h⟩
theorem Jh {t xt:TypeId} {ok:Bool} {x v:V} {cx:Value} (hx:Rel K σ.top w x cx) (hv:vD E.P t ok x=some v):
 ∃c,(Instr.typeAssert cx xt t ok).run E.P w= .ok c w/\Rel K σ.top w v c:=by
 unfold vD at hv
 have two:∀{a b:V} {ca cb:Value},Rel K σ.top w a ca->Rel K σ.top w b cb->Rel K σ.top w (.tup [a,b]) (.tuple #[ca,cb]):=fun {a b ca cb} ha hb=>.tup _ _ rfl (fun i hi=>by
  match i,hi with
  |0,_=>exact ha
  |1,_=>exact hb)
 split at hv
 ·cases hv
 ·cases hv
 ·rename_i d hni hd
  have hu:(underlying t).run E.P w= .ok d w:=run_underlying hd w
  split at hv
  ·rename_i u y
   cases hx with
   |iface _ _ c hr=>
   split at hv
   ·rename_i hut
    subst hut
    simp only[iE] at hv
    cases ok with
    |true=>
     simp only[if_true] at hv
     subst hv
     refine⟨_,?_,two hr (.bool true)⟩
     cases d<;>first| (exact absurd rfl (hni _))|simp[Instr.typeAssert,hu]
    |false=>
     simp only[RH,if_false] at hv
     subst hv
     refine⟨_,?_,hr⟩
     cases d<;>first| (exact absurd rfl (hni _))|simp[Instr.typeAssert,hu]
   ·rename_i hut
    split at hv
    ·rename_i hok
     subst hok
     simp only[RF] at hv
     obtain⟨z,hz,rfl⟩:=hv
     obtain⟨c,h1,h2⟩:=kT (w:=w) hz
     refine⟨_,?_,two (h2 _ _) (.bool false)⟩
     cases d<;>first| (exact absurd rfl (hni _))|simp[Instr.typeAssert,hu,hut,h1]
    ·cases hv
  ·cases hx
   split at hv
   ·rename_i hok
    subst hok
    simp only[RF] at hv
    obtain⟨z,hz,rfl⟩:=hv
    obtain⟨c,h1,h2⟩:=kT (w:=w) hz
    refine⟨_,?_,two (h2 _ _) (.bool false)⟩
    cases d<;>first| (exact absurd rfl (hni _))|simp[Instr.typeAssert,hu,h1]
   ·cases hv
  ·cases hv
theorem Ji (h:ay E B0 σ K w) (hB:B0<=w.heap.size) {fr:Fr} {a:Act} (hf:bT K σ.top w fr a.tmps) {st:Nat} (hst:¬K.A st) {o:Oper} {v:V} {σ':Sig} (hv:aF E fr σ st o=some (v,σ')):
 iw E B0 (· =st) σ K w (execOp a.eval o) v σ':=by
 have ev:=fun x=>ig h hf x
 unfold aF at hv
 unfold execOp
 split at hv
 ·rename_i x hop
  split at hv
  ·obtain⟨K',r1,r2⟩:=Jg (new:=(· =st)) h (ev x) hv
   simp only[hop]
   exact⟨.value (a.eval x),a.eval x,w,K',rfl,.inl rfl,r1,r2⟩
  simp only[iE,iR] at hv
  obtain⟨rfl,rfl⟩:=hv
  simp only[hop]
  exact⟨.value (a.eval x),a.eval x,w,K,rfl,.inl rfl,ev x,.refl h⟩
 ·rename_i x hop
  simp only[iE,iR] at hv
  obtain⟨rfl,rfl⟩:=hv
  simp only[hop]
  exact⟨.value (a.eval x),a.eval x,w,K,rfl,.inl rfl,ev x,.refl h⟩
 ·rename_i c x y hop
  simp only[RF,iR] at hv
  obtain⟨b,hb,rfl,rfl⟩:=hv
  simp only[hop]
  have hc:=wG (ev c) hb
  refine⟨.value (if b then a.eval x else a.eval y),_,w,K,by simp[asBool,hc],.inl rfl,?_,.refl h⟩
  cases b
  ·exact ev y
  ·exact ev x
 ·rename_i t hop
  simp only[iP] at hv
  obtain⟨loc,_,z,hz,hv⟩:=hv
  split at hv
  ·simp only[iE,iR] at hv
   obtain⟨rfl,rfl⟩:=hv
   simp only[hop]
   obtain⟨cz,hz1,hz2⟩:=kT w hz
   obtain⟨c,w',K',r1,r2,r3⟩:=BG h hB hst loc t (hz2 K σ.top) (nM hz)
   refine .iy ⟨c,w',K',?_,r2,r3⟩
   simp only[Instr.alloc,Sem.run_bind,hz1,Result.andThen_ok]
   exact r1
  ·simp at hv
 ·rename_i t x hop
  split at hv
  ·split at hv
   ·rename_i hc
    simp only[iE,iR] at hv
    obtain⟨rfl,rfl⟩:=hv
    simp only[hop]
    exact .iy (Je h hB t (ev x) hc.2)
   ·simp at hv
  simp only[iP] at hv
  obtain⟨loc,_,hv⟩:=hv
  split at hv
  ·rename_i hc
   simp only[iE,iR] at hv
   obtain⟨rfl,rfl⟩:=hv
   simp only[hop]
   exact .iy (BG h hB hst loc t (ev x) hc.2)
  ·simp at hv
 ·rename_i t parts hop
  simp only[iP,RF,iR] at hv
  obtain⟨pl,hpl,z,hz,cs,hcs,rfl,rfl⟩:=hv
  simp only[hop]
  refine .bU h (Iy hpl hz ?_ (nM hz) hcs)
  rw[Array.toList_map]
  exact wm h hf _
 ·rename_i t len parts hop
  simp only[RF,iR] at hv
  obtain⟨v',hv',rfl,rfl⟩:=hv
  simp only[hop]
  refine .iy (IB h hB ?_ hv')
  rw[Array.toList_map]
  exact wm h hf _
 ·rename_i t x hop
  simp only[hop]
  have hx:=ev x
  generalize fr.ev E x=xv at hv hx
  cases xv with
  |ref loc s off=>
   simp only[iP,RF,iR] at hv
   obtain⟨cs,h1,v',h2,rfl,rfl⟩:=hv
   exact .bU h (vX h hx (by simp[h1,h2]))
  |cref cs off=>
   simp only[RF,iR] at hv
   obtain⟨v',h2,rfl,rfl⟩:=hv
   exact .bU h (vX h hx h2)
  |_=>simp at hv
 ·rename_i t p x hop
  simp only[hop]
  have hp:=ev p
  have hx:=ev x
  generalize fr.ev E p=pv at hv hp
  cases pv with
  |ref loc s off=>
   simp only[iP] at hv
   obtain⟨cs,hcs,hv⟩:=hv
   split at hv
   ·rename_i hc
    simp only[iE,iR] at hv
    obtain⟨rfl,rfl⟩:=hv
    obtain⟨w',r1,r2⟩:=Io (new:=(· =st)) h hB hp hx hcs hc.1 hc.2.1 hc.2.2
    exact .wF r1 r2
   ·simp at hv
  |_=>simp at hv
 ·rename_i x hop
  simp only[hop]
  have hx:=ev x
  generalize fr.ev E x=xv at hv hx
  cases xv with
  |ref loc s off=>
   simp only[iE,iR] at hv
   obtain⟨rfl,rfl⟩:=hv
   generalize a.eval x=cx at hx
   cases hx with|ref _ _ _ hA=>exact⟨_,_,w,K,rfl,.inl rfl,.ref loc s off hA,.refl h⟩
  |cref cs off=>
   simp only[iE,iR] at hv
   obtain⟨rfl,rfl⟩:=hv
   generalize a.eval x=cx at hx
   have hx':=hx
   cases hx with|cref _ _ b o val h1 h2=>exact⟨_,_,w,K,rfl,.inl rfl,hx',.refl h⟩
  |fn f g l=>
   cases f with
   |func f=>
    simp only[iE,iR] at hv
    obtain⟨rfl,rfl⟩:=hv
    generalize a.eval x=cx at hx
    have hx':=hx
    cases hx with|fn _ _ _ av bv h1 h2 h3 h4=>exact⟨_,_,w,K,rfl,.inl rfl,hx',.refl h⟩
   |_=>simp at hv
  |_=>simp at hv
 ·rename_i op t x y _ hop
  simp only[RF,iR] at hv
  obtain⟨v',hv',rfl,rfl⟩:=hv
  simp only[hop]
  exact .bU h (Ig w x y (ev x) (ev y) hv')
 ·rename_i op t x hop
  simp only[RF,iR] at hv
  obtain⟨v',hv',rfl,rfl⟩:=hv
  simp only[hop]
  exact .bU h (Ih w (ev x) hv')
 ·rename_i s d x hop
  simp only[RF,iR] at hv
  obtain⟨v',hv',rfl,rfl⟩:=hv
  simp only[hop]
  exact .iy (Ik h hB (ev x) hv')
 ·rename_i t x hop
  simp only[iP] at hv
  obtain⟨⟨n,e⟩,hn,hv⟩:=hv
  have hu:=AO hn
  simp only[hop]
  have hx:=ev x
  generalize fr.ev E x=xv at hv hx
  generalize a.eval x=cx at hx
  cases xv with
  |vw loc s off len cap au ag=>
   simp only at hv
   split at hv
   ·rename_i hle
    simp only[iE,iR] at hv
    obtain⟨rfl,rfl⟩:=hv
    cases hx with
    |dM=>omega
    |vw _ _ _ _ _ _ _ aM hA hcc hlc hsz=>
     have:¬(len<n):=by omega
     exact .bU h ⟨_,by simp[Instr.arrayAt,run_underlying hu,this],.ref loc s off hA⟩
   ·simp at hv
  |lst c l=>
   simp only at hv
   split at hv
   ·rename_i hc
    obtain⟨c1,c2,c3⟩:=hc
    simp only[iE,iR] at hv
    obtain⟨rfl,rfl⟩:=hv
    cases hx with
    |aV=>simp at c2;omega
    |lst _ _ b o m cap val hle hn hcell hrel hcap=>
     have hlt:¬(l.length<n):=by omega
     have hone:∀i,i<l.length->(l.getD i undefV).cells=[l.getD i undefV]:=fun i hi=>by
      simp only[oneCells,RZ] at c3
      have:=c3 _ (SI hi)
      rw[bX hi]
      revert this
      cases l[i]<;>simp[oneCell,V.cells]
     have hm:m=1:=by
      have h0:0<l.length:=by omega
      rw[<-hn 0 h0,hone 0 h0];rfl
     subst hm
     refine .bU h ⟨.pointer (some (at_ b (o+0))),by simp[Instr.arrayAt,run_underlying hu,hlt],.cref (l.take n) 0 b o (fun j=>val j 0) (fun j hj=>?_) (fun j hj=>?_)⟩
     ·have hj':j<l.length:=by rw[R3] at hj;omega
      have:=hcell j 0 hj' (by omega)
      simpa using this
     ·have hj':j<l.length:=by rw[R3] at hj;omega
      have hjn:j<n:=by rw[R3] at hj;omega
      have:=hrel j 0 hj' (by omega)
      rw[hone j hj'] at this
      have e:(l.take n).getD j undefV=l.getD j undefV:=by
       rw[SQ,SQ,List.getElem?_take_of_lt hjn]
      rw[e]
      simpa using this
   ·simp at hv
  |_=>simp at hv
 ·rename_i t x hop
  simp only[hop]
  split at hv
  ·simp at hv
  ·rename_i d hu hd
   simp only[iE,iR] at hv
   obtain⟨rfl,rfl⟩:=hv
   refine .bU h ⟨.iface t (a.eval x),?_,.iface t _ _ (ev x)⟩
   simp only[Instr.makeInterface,Sem.run_bind,run_underlying hd,Result.andThen_ok]
   rfl
  ·simp at hv
 ·rename_i f p q hop
  simp only[iE,iR] at hv
  obtain⟨rfl,rfl⟩:=hv
  simp only[hop]
  obtain⟨h1,h2⟩:=kX h hf p
  obtain⟨h3,h4⟩:=kX h hf q
  exact .bU h ⟨_,rfl,.fn f _ _ _ _ h1 h3 h2 h4⟩
 ·rename_i t hop
  simp only[RF,iR] at hv
  obtain⟨loc,_,rfl,rfl⟩:=hv
  simp only[hop]
  exact .iy (Jf h hB hst loc t)
 ·rename_i t l c hop
  simp only[hop]
  exact .iy (I6 h hB hst (ev l) (ev c) hv)
 ·rename_i t x lo hi mx hop
  simp only[RF,iR] at hv
  obtain⟨v',hv',rfl,rfl⟩:=hv
  simp only[hop]
  have opt:∀(p:Option Operand) v,bS E fr p=some v->∃c,p.map a.eval=some c/\Rel K σ.top w v c:=by
   intro p v hp
   cases p with
   |none=>simp[bS] at hp
   |some p=>
    simp only[bS,iE] at hp;subst hp
    exact⟨_,rfl,ev p⟩
  have wH:∀(p:Option Operand),bS E fr p=none->p.map a.eval=none:=by
   intro p hp
   cases p with
   |none=>rfl
   |some p=>simp[bS] at hp
  exact .bU h (Ii w rfl h (ev x) (opt lo) (wH lo) (opt hi) (wH hi) (opt mx) (wH mx) hv')
 ·rename_i t x f hop
  simp only[iP] at hv
  obtain⟨⟨o',u⟩,hfi,hv⟩:=hv
  simp only[hop]
  have hx:=ev x
  generalize fr.ev E x=xv at hv hx
  cases xv with
  |ref loc s off=>
   simp only[iE,iR] at hv
   obtain⟨rfl,rfl⟩:=hv
   exact .bU h (AZ hx hfi rfl)
  |cref cs off=>
   simp only[iE,iR] at hv
   obtain⟨rfl,rfl⟩:=hv
   exact .bU h (AZ hx hfi rfl)
  |_=>simp at hv
 ·rename_i t x f hop
  simp only[iP] at hv
  obtain⟨⟨o',u⟩,hfi,hv⟩:=hv
  simp only[hop]
  have hx:=ev x
  generalize fr.ev E x=xv at hv hx
  generalize a.eval x=cx at hx
  cases xv with
  |agg cs=>
   simp only[RF,iR] at hv
   obtain⟨v',hv',rfl,rfl⟩:=hv
   cases hx with|agg _ vs hl hr=>
   obtain⟨fs,g,n,hu,hg,rfl,rfl,hn⟩:=AQ hfi
   obtain⟨c,r1,r2⟩:=nO (P:=E.P) (w:=w) hl hr hv'
   exact .bU h ⟨c,by simp[Instr.field,run_underlying hu,hg,asAgg,r1],r2⟩
  |_=>simp at hv
 ·rename_i t x i hop
  simp only[RF,iR] at hv
  obtain⟨v',hv',rfl,rfl⟩:=hv
  simp only[hop]
  exact .bU h (Il (ev x) (ev i) hv')
 ·rename_i t x i hop
  simp only[RF,iR] at hv
  obtain⟨v',hv',rfl,rfl⟩:=hv
  simp only[hop]
  exact .bU h (Im (ev x) (ev i) hv')
 ·rename_i t x i ok hop
  simp only[RF,iR] at hv
  obtain⟨v',hv',rfl,rfl⟩:=hv
  simp only[hop]
  exact .bU h (Ir h (ev x) (ev i) hv')
 ·rename_i t m k x hop
  simp only[RF,iR] at hv
  obtain⟨σ1,hv',rfl,rfl⟩:=hv
  simp only[hop]
  obtain⟨w',r1,r2,_⟩:=Bc (new:=(· =st)) h hB (ev m) (ev k) (ev x) hv'
  exact .wF r1 r2
 ·rename_i t m k x hop
  simp only[RF,iR] at hv
  obtain⟨σ1,hv',rfl,rfl⟩:=hv
  simp only[hop]
  obtain⟨w',r1,r2,_⟩:=Bc (new:=(· =st)) h hB (ev m) (ev k) (ev x) hv'
  exact .wF r1 r2
 ·rename_i x i hop
  simp only[hop]
  have hx:=ev x
  generalize fr.ev E x=xv at hv hx
  generalize a.eval x=cx at hx
  cases xv with
  |tup vs=>
   simp only[RF,iR] at hv
   obtain⟨v',hv',rfl,rfl⟩:=hv
   cases hx with|tup _ BI hl hr=>
   have hi:i<vs.length:=(SH.1 hv').1
   have hi':i<BI.size:=by omega
   refine .bU h ⟨BI[i],by simp[Instr.extract,hi'],?_⟩
   have:=hr i hi
   rw[bX hi,nL hi'] at this
   have e:vs[i]=v':=(SH.1 hv').2
   rw[<-e];exact this
  |_=>simp at hv
 ·rename_i x xt t ok hop
  simp only[RF,iR] at hv
  obtain⟨v',hv',rfl,rfl⟩:=hv
  simp only[hop]
  exact .bU h (Jh (ev x) hv')
 ·simp at hv
end
section
variable {E:Env} {B0:Nat} {σ:Sig} {K:Con} {w:World} {new:Nat->Prop} {T:Nat->Nat}
def RelA (K:Con) (T:Nat->Nat) (w:World) (l:List V) (cl:Array Value):Prop:=l.length=cl.size/\∀i,i<l.length->Rel K T w (l.getD i undefV) (cl.getD i undef)
theorem wI {x:V} {cl:Array Value} (h:RelA K T w [x] cl):∃c,cl= #[c]/\Rel K T w x c:=by
 obtain⟨h1,h2⟩:=h
 have hs:cl.size=1:=by simpa using h1.symm
 refine⟨cl[0],?_,?_⟩
 ·apply Array.ext
  ·simpa using hs
  ·intro i h1 h2
   obtain rfl:i=0:=by omega
   rfl
 ·have:=h2 0 (by simp)
  rwa[nL (by omega)] at this
theorem BJ {x y:V} {cl:Array Value} (h:RelA K T w [x,y] cl):∃c d,cl= #[c,d]/\Rel K T w x c/\Rel K T w y d:=by
 obtain⟨h1,h2⟩:=h
 have hs:cl.size=2:=by simpa using h1.symm
 refine⟨cl[0],cl[1],?_,?_,?_⟩
 ·apply Array.ext
  ·simpa using hs
  ·intro i h1 h2
   have:i=0\/i=1:=by omega
   rcases this with rfl|rfl<;>rfl
 ·have:=h2 0 (by simp)
  rwa[nL (by omega)] at this
 ·have:=h2 1 (by simp)
  rwa[nL (by omega)] at this
theorem BK {x:V} {l:List V} {cl:Array Value} (h:RelA K T w (x::l) cl):∃c cs,cl.toList=c::cs/\Rel K T w x c/\l.length=cs.length/\∀i,i<l.length->Rel K T w (l.getD i undefV) (cs.getD i undef):=by
 obtain⟨h1,h2⟩:=h
 cases hc:cl.toList with
 |nil=>
  have:cl.size=0:=by rw[<-Array.length_toList,hc];rfl
  simp[this] at h1
 |cons c cs=>
  have hg:∀i,cl.getD i undef=(c::cs).getD i undef:=fun i=>by rw[<-hc,nU]
  have hl:cl.size=cs.length+1:=by rw[<-Array.length_toList,hc];rfl
  refine⟨c,cs,rfl,?_,by simp at h1;omega,fun i hi=>?_⟩
  ·have:=h2 0 (by simp)
   rw[hg] at this
   simpa using this
  ·have:=h2 (i+1) (by simp;omega)
   rw[hg] at this
   simpa using this
theorem Jj (h:ay E B0 σ K w) (hB:B0<=w.heap.size) {om:Bool} {loc:Option Loc} {st:Nat} (hst:¬K.A st) {b:Builtin} {tys:Array TypeId} {ty:TypeId} {consts:Array Bool} {args:List V} {cargs:Array Value} {v:V} {σ':Sig}
 (hr:RelA K σ.top w args cargs) (hv:fC E om loc σ st b tys args=some (v,σ')):iw E B0 (· =st) σ K w (builtin b tys ty consts cargs) v σ':=by
 unfold fC at hv
 split at hv
 ·rename_i x
  simp only[iP,RF,iR] at hv
  obtain⟨t,ht,n,hn,rfl,rfl⟩:=hv
  obtain⟨c,rfl,hx⟩:=wI hr
  exact .bU h ⟨_,Jc h ht hx hn,.int .i64 n⟩
 ·rename_i x
  simp only[iP] at hv
  obtain⟨t,ht,e,he,hv⟩:=hv
  obtain⟨c,rfl,hx⟩:=wI hr
  obtain⟨rfl,r⟩:=Jd (ty:=ty) ht (nN he) hv hx
  exact .bU h r
 ·rename_i x y
  simp only[iP] at hv
  obtain⟨t,ht,u,⟨tx,htx,hu⟩,hv⟩:=hv
  obtain⟨c,d,rfl,hx,hy⟩:=BJ hr
  have he:Builtin.append_ tys ty #[c,d]=Builtin.append_ #[t,tx] ty #[c,d]:=by simp[Builtin.append_,ht,htx]
  show iw E B0 _ σ K w (do pure (.value (<-Builtin.append_ tys ty #[c,d]))) v σ'
  rw[he]
  split at hv
  ·rename_i k
   exact .iy (wE h hB hst hx hy (fun _=>⟨k,hu⟩) (fun hf=>by cases hf) hv)
  ·rename_i e
   exact .iy (wE h hB hst hx hy (fun hf=>by cases hf) (fun _=>.inl ⟨e,hu⟩) hv)
  ·exact .iy (wE h hB hst hx hy (fun hf=>by cases hf) (fun _=>.inr hu) hv)
  ·simp at hv
 ·rename_i x y
  simp only[iP] at hv
  obtain⟨t,ht,hv⟩:=hv
  obtain⟨c,d,rfl,hx,hy⟩:=BJ hr
  have he:Builtin.copy_ tys ty #[c,d]=Builtin.copy_ #[t,t] ty #[c,d]:=by simp[Builtin.copy_,ht]
  show iw E B0 _ σ K w (do pure (.value (<-Builtin.copy_ tys ty #[c,d]))) v σ'
  rw[he]
  exact .iy (Ja h hB hx hy hv)
 ·rename_i x
  simp only[iP] at hv
  obtain⟨t,ht,hv⟩:=hv
  obtain⟨c,rfl,hx⟩:=wI hr
  have he:Builtin.clear_ tys ty #[c]=Builtin.clear_ #[t] ty #[c]:=by simp[Builtin.clear_,ht]
  show iw E B0 _ σ K w (do pure (.value (<-Builtin.clear_ tys ty #[c]))) v σ'
  rw[he]
  exact .iy (Jb h hB hx hv)
 ·rename_i x l
  simp only[RF,iR] at hv
  obtain⟨v',hv',rfl,rfl⟩:=hv
  obtain⟨c,cs,hc,hx,hl,hrel⟩:=BK hr
  obtain⟨c',r1,r2⟩:=BD l cs x v' c hl hrel hx hv'
  have he:Builtin.min_ tys ty cargs=cs.foldlM Builtin.min2 c:=by unfold Builtin.min_;rw[hc]
  exact .bU (s:=Builtin.min_ tys ty cargs) h ⟨c',by rw[he];exact r1,r2⟩
 ·rename_i x l
  simp only[RF,iR] at hv
  obtain⟨v',hv',rfl,rfl⟩:=hv
  obtain⟨c,cs,hc,hx,hl,hrel⟩:=BK hr
  obtain⟨c',r1,r2⟩:=BF l cs x v' c hl hrel hx hv'
  have he:Builtin.max_ tys ty cargs=cs.foldlM Builtin.max2 c:=by unfold Builtin.max_;rw[hc]
  exact .bU (s:=Builtin.max_ tys ty cargs) h ⟨c',by rw[he];exact r1,r2⟩
 ·simp at hv
end
def FW (ro:Option Nat):Fence:={Fence.wide with round:=ro}
structure jl where
 l:List Deferred
 B:Nat
 nm:Bool
def mark (b:Nat):Deferred:=⟨.collected b, #[]⟩
structure St (E:Env) (B0:Nat) (σ:Sig) (K:Con) (w:World) (fr:Fr) (a:Act) (n:Nat) (ds:jl):Prop where
 ok:ay E B0 σ K w
 hB:B0<=w.heap.size
 fr:bT K σ.top w fr a.tmps
 sz:a.tmps.size=n
 df:∃bs:List Nat,a.defers=bs.map mark++ds.l/\bs.Nodup/\(∀b∈bs,K.D b/\ds.B<=b)/\(ds.nm=true->bs=[])
 st:∀s,K.A s->s<σ.next
 hD:ds.B<=w.heap.size
def dx:Ex->Exit->Prop
 |.normal,.normal=>True
 |.exit i,.exit j=>i=j
 |.ret,.ret=>True
 |_,_=>False
def newer (σ σ':Sig) (s:Nat):Prop:=σ.next<=s/\s<σ'.next
def jY (E:Env) (B0 n:Nat) (ds:jl) (σ:Sig) (K:Con) (w:World) (e:Ex) (fr':Fr) (σ':Sig):Exit->Act->World->Prop:=
 fun x a' w'=>dx e x/\∃K',St E B0 σ' K' w' fr' a' n ds/\Step E B0 (newer σ σ') σ K w σ' K' w'
def jG (E:Env) (code:Code->Fr->Sig->Option (Ex×Fr×Sig)):Prop:=
 ∀c fr σ e fr' σ',code c fr σ=some (e,fr',σ')->σ.next<=σ'.next/\∀ro B0 K w a n ds,St E B0 σ K w fr a n ds->aP n c=true->(ro=none/\ds.nm=false\/bH c=true)->c.wpIn (FW ro) 0 E.P (jY E B0 n ds σ K w e fr' σ') a w
def iA (E:Env) (B0:Nat) (σ:Sig) (K:Con) (w:World) (v:V) (σ':Sig):Ending->World->Prop
 |.returned c,w'=>∃K',Rel K' σ'.top w' v c/\ay E B0 σ' K' w'/\(∀s,K'.A s->s<σ'.next)/\Step E B0 (newer σ σ') σ K w σ' K' w'
 |_,_=>False
def HasBody (E:Env) (f:FuncId):Prop:=∃fn c,E.P.funcs[f]? =some fn/\fn.body=some c
def nZ (E:Env) (call:FuncId->List V->Nat->Sig->Option (V×Sig)):Prop:=
 ∀f args d σ v σ',call f args d σ=some (v,σ')->σ.next<=σ'.next/\HasBody E f/\∀ro B0 K w cargs,ay E B0 σ K w->B0<=w.heap.size->(∀s,K.A s->s<σ.next)->RelA K σ.top w args cargs->
  CallsIn (FW ro) 0 E.P f cargs w (iA E B0 σ K w v σ')
structure Sound (E:Env) (S:bG):Prop where
 code:jG E S.code
 call:nZ E S.call
theorem Step.widen {E:Env} {B0:Nat} {σ σ1 σ2:Sig} {K K1 K2:Con} {w w1 w2:World} (h:Step E B0 (newer σ σ1) σ K w σ1 K1 w1) (g:Step E B0 (newer σ1 σ2) σ1 K1 w1 σ2 K2 w2)
 (h1:σ.next<=σ1.next) (h2:σ1.next<=σ2.next):Step E B0 (newer σ σ2) σ K w σ2 K2 w2:=
 (h.mono (fun _ hs=>⟨hs.1,RS hs.2 h2⟩)).trans (g.mono (fun _ hs=>⟨RG h1 hs.1,hs.2⟩))
end Aq
end
section
open Go
namespace Aq
section
variable {F:Fence} {n:Nat} {P:Program} {Q:Exit->Act->World->Prop} {b:Frame} {k:List Item} {cs:List Frame} {a:Act} {w:World}
theorem mh {c:Code}:step P (lone (b.atR a (.code (.scope c)::k)) cs w)= .next (lone (b.atR a (.code c:: .inScope c::k)) cs w):=
 step_lone_go (by simp[stepG,stepG.exec,Frame.atR])
theorem Jk {c:Code}:step P (lone (b.atR a (.inScope c::k)) cs w)= .next (lone (b.atR a k) cs w):=
 step_lone_go (by simp[stepG,stepG.exec,Frame.atR])
theorem Jl {c:Code} (h:c.wpIn F n P (Exit.noGoto Q) a w):(Code.scope c).wpIn F n P Q a w:=by
 intro b k cs hro hb hr
 have h0:(lone (b.atR a (.code (.scope c)::k)) cs w).fenced P F:=fenced_calm hb hr rfl
 obtain⟨e,a₁,w₁,hq,harr⟩:=h b (.inScope c::k) cs hro hb hr
 cases e with
 |normal=>exact⟨.normal,a₁,w₁,hq,.head h0 mh (StepsIn.trans harr (.one (fenced_calm hb hr rfl) Jk))⟩
 |exit id'=>
  have hx:exitTo id' (.inScope c::k)=exitTo id' k:=by simp[exitTo]
  exact⟨.exit id',a₁,w₁,hq,fun k' hk=>.head h0 mh (harr.1 k' (by rw[hx];exact hk)),
   fun hr' hk=>let ⟨k₁,h1,h2⟩:=harr.2 hr' (by rw[hx];exact hk);⟨k₁,h1,.head h0 mh h2⟩⟩
 |goto l=>exact hq.elim
 |ret=>exact⟨_,a₁,w₁,hq,.of_steps (.one h0 mh) harr⟩
 |panic ch=>exact⟨_,a₁,w₁,hq,.of_steps (.one h0 mh) harr⟩
 |outgrown=>exact⟨_,a₁,w₁,hq,.of_steps (.one h0 mh) harr⟩
end
end Aq
end
section
namespace Aq
open Go Go.RowKit
section
variable {E:Env} {B0:Nat} {σ:Sig} {K:Con} {w:World} {fr:Fr} {a:Act} {n:Nat} {ds:jl}
def eu (E:Env) (c:Code) (fr:Fr) (σ:Sig) (e:Ex) (fr':Fr) (σ':Sig):Prop:=
 σ.next<=σ'.next/\∀ro B0 K w a n ds,St E B0 σ K w fr a n ds->aP n c=true->(ro=none/\ds.nm=false\/bH c=true)->c.wpIn (FW ro) 0 E.P (jY E B0 n ds σ K w e fr' σ') a w
theorem Jm:eu E .skip fr σ .normal fr σ:=
 ⟨mF _,fun _ _ K _ _ _ _ h _ _=>wpIn_skip ⟨trivial,K,h,.refl h.ok⟩⟩
theorem Jo (id:Nat):eu E (.exit id) fr σ (.exit id) fr σ:=
 ⟨mF _,fun _ _ K _ _ _ _ h _ _=>wpIn_exit ⟨rfl,K,h,.refl h.ok⟩⟩
theorem Jp:eu E .ret fr σ .ret fr σ:=
 ⟨mF _,fun _ _ K _ _ _ _ h _ _=>wpIn_ret ⟨trivial,K,h,.refl h.ok⟩⟩
theorem Jq (l:Nat):eu E (.label l) fr σ .normal fr σ:=
 ⟨mF _,fun _ _ K _ _ _ _ h _ _=>wpIn_label ⟨trivial,K,h,.refl h.ok⟩⟩
theorem Jr {c:Code} {e:Ex} {aB:Fr} {σ1:Sig} (h:eu E c fr σ e aB σ1):eu E (.scope c) fr σ e aB σ1:=by
 refine⟨h.1,fun ro B0 K w a n ds hs hok hnr=>Jl (wpIn_mono (h.2 ro B0 K w a n ds hs hok hnr) ?_)⟩
 rintro x a1 w1 ⟨hx,hr⟩
 cases x with
 |goto l=>cases e<;>simp only[dx] at hx
 |_=>exact⟨hx,hr⟩
theorem jY.widen {σ1 σ2:Sig} {K1:Con} {w1:World} {e:Ex} {fr':Fr} (h:Step E B0 (newer σ σ1) σ K w σ1 K1 w1) (h1:σ.next<=σ1.next) (h2:σ1.next<=σ2.next):
 ∀x a' w',jY E B0 n ds σ1 K1 w1 e fr' σ2 x a' w'->jY E B0 n ds σ K w e fr' σ2 x a' w':=by
 rintro x a' w' ⟨g1,K2,g2,g3⟩
 exact⟨g1,K2,g2,h.widen g3 h1 h2⟩
theorem Js {c d:Code} {e:Ex} {aB aW:Fr} {σ1 σ2:Sig} (h:eu E c fr σ .normal aB σ1) (g:eu E d aB σ1 e aW σ2):eu E (.seq c d) fr σ e aW σ2:=by
 refine⟨RG h.1 g.1,fun ro B0 K w a n ds hs hok hnr=>?_⟩
 simp only[aP,RD] at hok
 simp only[bH,RD] at hnr
 refine wpIn_seq (wpIn_mono (h.2 ro B0 K w a n ds hs hok.1 (hnr.imp id And.left)) ?_)
 rintro x a1 w1 ⟨hx,K1,s1,st1⟩
 cases x<;>simp only[dx] at hx
 exact wpIn_mono (g.2 ro B0 K1 w1 a1 n ds s1 hok.2 (hnr.imp id And.right)) (jY.widen st1 h.1 g.1)
theorem BL {c d:Code} {e:Ex} {aB:Fr} {σ1:Sig} (he:e≠ .normal) (h:eu E c fr σ e aB σ1):eu E (.seq c d) fr σ e aB σ1:=by
 refine⟨h.1,fun ro B0 K w a n ds hs hok hnr=>?_⟩
 simp only[aP,RD] at hok
 simp only[bH,RD] at hnr
 refine wpIn_seq (wpIn_mono (h.2 ro B0 K w a n ds hs hok.1 (hnr.imp id And.left)) ?_)
 rintro x a1 w1 ⟨hx,K1,s1,st1⟩
 cases e<;>cases x<;>simp only[dx] at hx
 ·exact absurd rfl he
 ·exact⟨hx,K1,s1,st1⟩
 ·exact⟨hx,K1,s1,st1⟩
theorem Jt {c:Operand} {x y:Code} {t:Bool} {e:Ex} {aB:Fr} {σ1:Sig} (hc:fA (fr.ev E c)=some t) (h:eu E (if t then x else y) fr σ e aB σ1):eu E (.cond c x y) fr σ e aB σ1:=by
 refine⟨h.1,fun ro B0 K w a n ds hs hok hnr=>?_⟩
 simp only[aP,RD] at hok
 simp only[bH,RD] at hnr
 refine wpIn_cond (wG (ig hs.ok hs.fr c) hc) (h.2 ro B0 K w a n ds hs ?_ ?_)
 ·cases t
  ·exact hok.2
  ·exact hok.1
 ·cases t
  ·exact hnr.imp id And.right
  ·exact hnr.imp id And.left
def wJ (id:Nat):Ex->Ex
 |.exit i=>if i=id then .normal else .exit i
 |e=>e
theorem Ju {id:Nat} {c:Code} {e:Ex} {aB:Fr} {σ1:Sig} (h:eu E c fr σ e aB σ1):eu E (.block id c) fr σ (wJ id e) aB σ1:=by
 refine⟨h.1,fun ro B0 K w a n ds hs hok hnr=>wpIn_block (wpIn_mono (h.2 ro B0 K w a n ds hs hok hnr) ?_)⟩
 rintro x a1 w1 ⟨hx,K1,s1,st1⟩
 cases e with
 |normal=>cases x<;>simp only[dx] at hx;exact⟨trivial,K1,s1,st1⟩
 |ret=>cases x<;>simp only[dx] at hx;exact⟨trivial,K1,s1,st1⟩
 |exit i=>
  cases x<;>simp only[dx] at hx
  subst hx
  simp only[Exit.inBlock,wJ]
  split
  ·exact⟨trivial,K1,s1,st1⟩
  ·exact⟨rfl,K1,s1,st1⟩
end
section
variable {E:Env} {B0:Nat} {σ σ':Sig} {K K':Con} {w w':World} {fr:Fr} {a:Act} {n:Nat} {ds:jl}
theorem bT.put {T:Nat->Nat} (h:bT K T w fr a.tmps) {d:Option Nat} {v:V} {c:Value} (hr:Rel K T w v c) (hd:∀i,d=some i->i<a.tmps.size):bT K T w (fr.put d v) (a.put d c).tmps:=by
 cases d with
 |none=>exact h
 |some i=>
  have hi:=hd i rfl
  intro t
  show Rel K T w (upd fr.tm i v t) ((a.tmps.setIfInBounds i c).getD t undef)
  by_cases ht:t=i
  ·subst ht
   rw[upd_same]
   have:(a.tmps.setIfInBounds t c).getD t undef=c:=by simp[Array.getD,hi]
   rw[this];exact hr
  ·rw[upd_ne _ _ ht]
   have:(a.tmps.setIfInBounds i c).getD t undef=a.tmps.getD t undef:=by
    simp only[Array.getD,Array.size_setIfInBounds]
    split
    ·rename_i hlt
     show (a.tmps.setIfInBounds i c)[t]'(by simpa using hlt)=a.tmps[t]
     rw[Array.getElem_setIfInBounds_ne hlt (Ne.symm ht)]
    ·rfl
   rw[this];exact h t
theorem Jv (a:Act) (d:Option Nat) (c:Value):(a.put d c).tmps.size=a.tmps.size:=by cases d<;>simp[Act.put]
theorem put_defers (a:Act) (d:Option Nat) (c:Value):(a.put d c).defers=a.defers:=by cases d<;>rfl
theorem St.put (h:St E B0 σ K w fr a n ds) {new:Nat->Prop} {d:Option Nat} {v:V} {c:Value} (hs:Step E B0 new σ K w σ' K' w') (hr:Rel K' σ'.top w' v c) (hd:∀i,d=some i->i<n) (hst:∀s,K'.A s->s<σ'.next):
 St E B0 σ' K' w' (fr.put d v) (a.put d c) n ds:=
 ⟨hs.ok,RG h.hB hs.below.size,bT.put (h.fr.ext hs.ext) hr (fun i hi=>by rw[h.sz];exact hd i hi),by rw[Jv];exact h.sz,by obtain⟨bs,h1,h2,h3,h4⟩:=h.df;exact⟨bs,by rw[put_defers];exact h1,h2,fun b hb=>⟨hs.D b (h3 b hb).1,(h3 b hb).2⟩,h4⟩,hst,RG h.hD hs.below.size⟩
theorem qg {o:Oper} (ro:Option Nat) (ρ:Operand->Value) (h:∀c,o.op≠ .defer c):o.semAt ro ρ=execOp ρ o:=by
 unfold Oper.semAt
 split
 ·rename_i c hc
  exact absurd hc (h c)
 ·rfl
theorem Jw {o:Oper} {ro:Option Nat} {new:Nat->Prop} {v:V} {next:Act->World->Prop} {Q:Exit->Act->World->Prop} (ho:∀c,o.op≠ .defer c) (hd:iw E B0 new σ K w (execOp a.eval o) v σ')
 (hn:∀c w' K',Rel K' σ'.top w' v c->Step E B0 new σ K w σ' K' w'->next (a.put o.dst c) w'):o.wpIn (FW ro) 0 E.P a w next Q:=by
 refine⟨fun f _=>trivial,?_⟩
 obtain⟨nx,c,w',K',h1,h2,h3,h4⟩:=hd
 rw[qg _ _ ho,h1]
 rcases h2 with rfl| ⟨rfl,rfl⟩
 ·exact hn c w' K' h3 h4
 ·exact hn undef w' K' h3 h4
end
def iB (σ σ':Sig):Prop:=σ'.next=σ.next/\σ'.loops=σ.loops
theorem iB.refl (σ:Sig):iB σ σ:=⟨rfl,rfl⟩
section
variable {E:Env} {σ σ':Sig} {fr:Fr}
theorem Jy {t:TypeId} {m k v:V} (h:gV E.P σ t m k v=some σ'):iB σ σ':=by
 simp only[gV,iP] at h
 obtain⟨⟨kt,et⟩,_,h⟩:=h
 split at h
 ·cases m<;>simp only[reduceCtorEq] at h
  simp only[iP,RF] at h
  obtain⟨_,_,_,_,rfl⟩:=h
  exact⟨rfl,rfl⟩
 ·simp at h
theorem Jz {om:Bool} {st:Nat} {loc:Option Loc} {t:TypeId} {l c v:V} (h:jf E.P om σ st loc t l c=some (v,σ')):iB σ σ':=by
 simp only[jf,iP] at h
 obtain⟨_,_,_,_,_,_,_,_,_,_,_,_,h⟩:=h
 split at h
 ·split at h
  ·simp only[iE,iR] at h
   obtain⟨_,rfl⟩:=h
   exact⟨rfl,rfl⟩
  ·simp only[iP,RF,iR] at h
   obtain⟨_,_,_,_,_,rfl⟩:=h
   exact⟨rfl,rfl⟩
 ·simp at h
theorem JA {t:TypeId} {x y v:V} (h:copyV E.P σ t x y=some (v,σ')):iB σ σ':=by
 simp only[copyV,iP] at h
 obtain⟨_,_,_,_,_,_,h⟩:=h
 split at h
 ·simp only[iP] at h
  obtain⟨_,_,h⟩:=h
  split at h
  ·split at h
   ·simp only[iP] at h
    obtain⟨_,_,h⟩:=h
    split at h
    ·simp only[iE,iR] at h
     obtain⟨_,rfl⟩:=h
     exact⟨rfl,rfl⟩
    ·simp at h
   ·simp only[iE,iR] at h
    obtain⟨_,rfl⟩:=h
    exact⟨rfl,rfl⟩
   ·simp at h
  ·simp at h
 ·simp at h
theorem wK {om zeros:Bool} {st:Nat} {loc:Option Loc} {t:TypeId} {x y v:V} (h:dw E.P om zeros σ st loc t x y=some (v,σ')):iB σ σ':=by
 simp only[dw,iP] at h
 obtain⟨_,_,_,_,_,_,_,_,_,_,h⟩:=h
 split at h
 ·simp only[iP] at h
  obtain⟨_,_,h⟩:=h
  split at h
  ·split at h
   ·split at h
    ·split at h
     all_goals first
      | (simp only[RF,iR] at h;obtain⟨_,_,_,rfl⟩:=h;exact⟨rfl,rfl⟩)
      | (simp only[iE,iR] at h;obtain⟨_,rfl⟩:=h;exact⟨rfl,rfl⟩)
      | (split at h
         ·simp at h
         ·simp only[RF,iR] at h;obtain⟨_,_,_,rfl⟩:=h;exact⟨rfl,rfl⟩)
      | (split at h
         ·simp only[iE,iR] at h;obtain⟨_,rfl⟩:=h;exact⟨rfl,rfl⟩
         ·simp only[RF,iR] at h;obtain⟨_,_,_,rfl⟩:=h;exact⟨rfl,rfl⟩)
      | (split at h
         ·simp only[iE,iR] at h;obtain⟨_,rfl⟩:=h;exact⟨rfl,rfl⟩
         ·simp at h)
      |simp at h
    ·simp at h
   ·split at h
    ·simp only[iP] at h
     obtain⟨_,_,_,_,h⟩:=h
     split at h
     ·split at h
      ·simp only[iE,iR] at h;obtain⟨_,rfl⟩:=h;exact⟨rfl,rfl⟩
      ·simp at h
     ·split at h
      ·simp only[iE,iR] at h;obtain⟨_,rfl⟩:=h;exact⟨rfl,rfl⟩
      ·simp at h
    ·simp at h
   ·simp at h
  ·simp at h
 ·simp at h
theorem JB {t:TypeId} {x v:V} (h:je E.P σ t x=some (v,σ')):iB σ σ':=by
 simp only[je,iP] at h
 obtain⟨_,_,_,_,_,_,_,_,h⟩:=h
 split at h
 ·split at h
  ·simp only[iP] at h
   obtain⟨_,_,h⟩:=h
   split at h
   ·split at h<;>(simp only[iE,iR] at h;obtain⟨_,rfl⟩:=h;exact⟨rfl,rfl⟩)
   ·simp at h
  ·simp only[iE,iR] at h;obtain⟨_,rfl⟩:=h;exact⟨rfl,rfl⟩
  ·simp at h
 ·simp at h
theorem BM {om:Bool} {st:Nat} {loc:Option Loc} {b:Builtin} {tys:Array TypeId} {args:List V} {v:V} (h:fC E om loc σ st b tys args=some (v,σ')):iB σ σ':=by
 unfold fC at h
 split at h
 ·simp only[iP,RF,iR] at h
  obtain⟨_,_,_,_,_,rfl⟩:=h;exact .refl _
 ·simp only[iP] at h
  obtain⟨_,_,_,_,h⟩:=h
  split at h
  ·simp only[iE,iR] at h;obtain⟨_,rfl⟩:=h;exact .refl _
  ·simp only[iE,iR] at h;obtain⟨_,rfl⟩:=h;exact .refl _
  ·simp at h
 ·simp only[iP] at h
  obtain⟨_,_,_,_,h⟩:=h
  split at h
  ·exact wK h
  ·exact wK h
  ·exact wK h
  ·simp at h
 ·simp only[iP] at h
  obtain⟨_,_,h⟩:=h
  exact JA h
 ·simp only[iP] at h
  obtain⟨_,_,h⟩:=h
  exact JB h
 ·simp only[RF,iR] at h
  obtain⟨_,_,_,rfl⟩:=h;exact .refl _
 ·simp only[RF,iR] at h
  obtain⟨_,_,_,rfl⟩:=h;exact .refl _
 ·simp at h
theorem JC {x v:V} (h:jg σ x=some (v,σ')):iB σ σ':=by
 unfold jg at h
 split at h
 ·simp only[iP] at h
  obtain⟨_,_,h⟩:=h
  split at h
  ·simp only[iE,iR] at h;obtain⟨_,rfl⟩:=h;exact⟨rfl,rfl⟩
  ·simp at h
 ·simp only[iE,iR] at h;obtain⟨_,rfl⟩:=h;exact .refl _
 ·simp only[iE,iR] at h;obtain⟨_,rfl⟩:=h;exact .refl _
theorem BN {st:Nat} {o:Oper} {v:V} (h:aF E fr σ st o=some (v,σ')):iB σ σ':=by
 unfold aF at h
 split at h
 all_goals first
  |exact Jz h
  | (split at h<;>first
      |exact JC h
      | (simp only[iE,iR] at h;obtain⟨_,rfl⟩:=h;exact .refl _))
  | (simp only[iE,iR] at h;obtain⟨_,rfl⟩:=h;exact .refl _)
  | (simp only[RF,iR] at h;obtain⟨_,_,_,rfl⟩:=h;exact⟨rfl,rfl⟩)
  | (simp only[RF,iR] at h;obtain⟨_,h1,_,rfl⟩:=h;exact Jy h1)
  | (simp only[iP,RF,iR] at h;obtain⟨_,_,_,_,_,_,_,rfl⟩:=h;exact⟨rfl,rfl⟩)
  |simp at h
  | (simp only[iP] at h
     obtain⟨_,_,h⟩:=h
     split at h
     ·simp only[iE,iR] at h;obtain⟨_,rfl⟩:=h;exact⟨rfl,rfl⟩
     ·simp at h)
  |skip
 all_goals
  repeat' first
   |exact⟨rfl,rfl⟩
   | (obtain⟨_,_,h⟩:=h)
   | (simp only[iP] at h)
   |split at h
   | (simp only[iE,iR] at h;obtain⟨_,rfl⟩:=h;exact⟨rfl,rfl⟩)
   | (simp only[RF,iR] at h;obtain⟨_,_,_,rfl⟩:=h;exact⟨rfl,rfl⟩)
   | (simp at h;done)
end
def Con.lend (I:Nat->Nat->Prop) (IM:Nat->Prop):Con:=
 {A:=fun _=>False,blk:=fun _=>0,sz:=fun _=>0,ob:=fun _=>0,lo:=fun _=>0,hi:=fun _=>0,lp:=fun _=>0,I:=I,IM:=IM,D:=fun _=>False,ρ:=fun _=>none}
def grow (I:Nat->Nat->Prop) (B:Nat) (w:World) (b o:Nat):Prop:=(I b o\/B<=b)/\∃v,w.cell? (at_ b o)=some v
def jm (IM:Nat->Prop) (B:Nat) (w:World) (b:Nat):Prop:=(IM b\/B<=b)/\∃es aI,w.heap[b]? =some (.map es aI)
theorem iC:∀{l:List V},pcleanL l=true->∀i,i<l.length->pclean (l.getD i undefV)=true
 |v::l,h,0,_=>by simp only[pcleanL,RD] at h;exact h.1
 |v::l,h,i+1,hi=>by simp only[pcleanL,RD] at h;exact iC h.2 i (by simpa using hi)
theorem wL:∀{l:List V},cK l=true->∀i,i<l.length->flat (l.getD i undefV)=true
 |v::l,h,0,_=>by simp only[cK,RD] at h;exact h.1
 |v::l,h,i+1,hi=>by simp only[cK,RD] at h;exact wL h.2 i (by simpa using hi)
theorem wM {v:V} (h:pclean v=true) {j:Nat} (hj:j<v.cells.length):pclean (v.cells.getD j undefV)=true:=by
 cases v with
 |agg cs=>exact iC (l:=cs) (by simpa [pclean] using h) j hj
 |_=>
  have:j=0:=by simpa [V.cells] using hj
  subst this;exact h
section
variable {K K':Con} {T T':Nat->Nat} {w w':World}
theorem Rel.pure {v:V} {c:Value} (h:Rel K T w v c) (hp:pclean v=true) (hI:∀b o,K.I b o->K'.I b o/\w'.cell? (at_ b o)=w.cell? (at_ b o))
 (hM:∀b,K.IM b->K'.IM b/\w'.heap[b]? =w.heap[b]?):Rel K' T' w' v c:=by
 induction h with
 |int k n=>exact .int k n
 |bool b=>exact .bool b
 |str s b h=>exact .str s b h
 |nilp=>exact .nilp
 |nilf=>exact .nilf
 |nilm=>exact .nilm
 |nili=>exact .nili
 |agg cs vs hl _ ih=>exact .agg cs vs hl (fun i hi=>ih i hi (iC (by simpa [pclean] using hp) i hi))
 |tup cs vs hl _ ih=>exact .tup cs vs hl (fun i hi=>ih i hi (iC (by simpa [pclean] using hp) i hi))
 |aV c a ha hc=>
  cases c<;>simp only[pclean,RH] at hp
  exact .aV .sh a (fun h=>by cases h) trivial
 |lst c l b o n cap val hle hn hcell _ hc ih=>
  cases c<;>simp only[pclean,RH] at hp
  refine .lst .sh l b o n cap val hle hn (fun i j hi hj=>?_) (fun i j hi hj=>ih i j hi hj (wM (iC hp i hi) (by rw[hn i hi];exact hj))) trivial
  obtain⟨h1,h2⟩:=hcell i j hi hj
  obtain⟨g1,g2⟩:=hI _ _ h2
  exact⟨g2.trans h1,g1⟩
 |vw loc s off len cap au ag aM hA hc hle hsz=>simp[pclean] at hp
 |dM loc s au ag hA=>simp[pclean] at hp
 |cref cs off b o val hcell _ ih=>
  refine .cref cs off b o val (fun j hj=>?_) (fun j hj=>ih j hj (iC (by simpa [pclean] using hp) j hj))
  obtain⟨h1,h2⟩:=hcell j hj
  obtain⟨g1,g2⟩:=hI _ _ h2
  exact⟨g2.trans h1,g1⟩
 |ref loc s off hA=>simp[pclean] at hp
 |fn f a b av bv ha hb _ _ iha ihb=>
  simp only[pclean,RD] at hp
  exact .fn f a b av bv ha hb (fun i hi=>iha i hi (iC hp.1 i hi)) (fun i hi=>ihb i hi (iC hp.2 i hi))
 |yield l hA=>simp[pclean] at hp
 |mapr loc s hA=>simp[pclean] at hp
 |mapc ks vs b es aI hM' hb hk hv _ _ ihk pQ=>
  simp only[pclean,RD] at hp
  obtain⟨g1,g2⟩:=hM b hM'
  exact .mapc ks vs b es aI g1 (g2.trans hb) hk hv (fun i hi=>ihk i hi (iC hp.1 i (by omega))) (fun i hi=>pQ i hi (iC hp.2 i (by omega)))
 |iface t v c _ ih=>exact .iface t v c (ih (by simpa [pclean] using hp))
 |raw v=>simp[pclean] at hp
theorem Rel.flat {v:V} {c:Value} (h:Rel K T w v c) (hp:flat v=true):Rel K' T' w' v c:=by
 induction h with
 |int k n=>exact .int k n
 |bool b=>exact .bool b
 |str s b h=>exact .str s b h
 |nilp=>exact .nilp
 |nilf=>exact .nilf
 |nilm=>exact .nilm
 |nili=>exact .nili
 |agg cs vs hl _ ih=>exact .agg cs vs hl (fun i hi=>ih i hi (wL (by simpa [Aq.flat] using hp) i hi))
 |tup cs vs hl _ ih=>exact .tup cs vs hl (fun i hi=>ih i hi (wL (by simpa [Aq.flat] using hp) i hi))
 |_=>simp[Aq.flat] at hp
theorem JD {cs:List V} {vs:Array Value} (h:Rel K T w (.agg cs) (.agg vs)):cs.length=vs.size/\∀i,i<cs.length->Rel K T w (cs.getD i undefV) (vs.getD i undef):=by
 cases h with
 |agg _ _ hl h=>exact⟨hl,h⟩
theorem JE {n:Nat} {σ:Sig} {cs:List V} {v:V} (h:closeV n σ (.agg cs)=some v):∃cs',v= .agg cs':=by
 cases n with
 |zero=>simp[closeV] at h
 |succ n=>
  unfold closeV at h
  split at h
  ·simp only[iE] at h;exact⟨cs,h.symm⟩
  ·simp only[RF] at h;obtain⟨cs',_,rfl⟩:=h;exact⟨cs',rfl⟩
theorem JF {n:Nat} {σ:Sig} {x v:V} (hx:∀cs,x≠ .agg cs) (h:closeV n σ x=some v):v.cells=[v]/\x.cells=[x]:=by
 have h2:x.cells=[x]:=by cases x<;>first|rfl|exact absurd rfl (hx _)
 refine⟨?_,h2⟩
 cases n with
 |zero=>simp[closeV] at h
 |succ n=>
  unfold closeV at h
  split at h
  ·simp only[iE] at h;subst h;exact h2
  ·split at h
   all_goals try (simp only[reduceCtorEq] at h;done)
   all_goals try (simp only[RF] at h;obtain⟨_,_,rfl⟩:=h;first|rfl|exact absurd rfl (hx _))
   all_goals try (simp only[iP,RF] at h;obtain⟨_,_,_,_,rfl⟩:=h;rfl)
   ·simp only[iP] at h
    obtain⟨_,_,h⟩:=h
    split at h
    ·simp only[iP] at h
     obtain⟨_,_,h⟩:=h
     split at h
     ·simp only[iE] at h;subst h;rfl
     ·simp at h
    ·simp at h
   ·simp only[iP] at h
    obtain⟨⟨ks,vs⟩,_,h⟩:=h
    simp only[iP,RF] at h
    obtain⟨_,_,_,_,rfl⟩:=h;rfl
theorem wN {E:Env} {B0:Nat} {σ:Sig} (h:ay E B0 σ K w):∀(n:Nat) (v v':V) (c:Value),Rel K σ.top w v c->closeV n σ v=some v'->
 Rel (Con.lend (grow K.I B0 w) (jm K.IM B0 w)) T' w v' c:=by
 have jZ:∀b o,K.I b o->grow K.I B0 w b o/\w.cell? (at_ b o)=w.cell? (at_ b o):=fun b o hi=>⟨⟨.inl hi,(h.I b o hi).1⟩,rfl⟩
 have kY:∀b,K.IM b->jm K.IM B0 w b/\w.heap[b]? =w.heap[b]? :=fun b hi=>⟨⟨.inl hi,(h.IM b hi).1⟩,rfl⟩
 intro n
 induction n with
 |zero=>intro v v' c _ hc;simp[closeV] at hc
 |succ n ih=>
  intro v v' c hr hc
  have hlist:∀(l l':List V) (val:Nat->Value),l.mapM (closeV n σ)=some l'->(∀i,i<l.length->Rel K σ.top w (l.getD i undefV) (val i))->
   l'.length=l.length/\∀i,i<l'.length->Rel (Con.lend (grow K.I B0 w) (jm K.IM B0 w)) T' w (l'.getD i undefV) (val i):=by
   intro l l' val hm hv
   obtain⟨h1,h2⟩:=mapM_some hm
   refine⟨h1.symm,fun i hi=>?_⟩
   obtain⟨h3,h4⟩:=h2 i (by omega)
   have:=hv i (by omega)
   rw[bX (show i<l.length by omega)] at this
   rw[bX h3]
   exact ih _ _ _ this h4
  have hcells:∀(x x':V) (m:Nat) (val:Nat->Value),closeV n σ x=some x'->x.cells.length=m->(∀j,j<m->Rel K σ.top w (x.cells.getD j undefV) (val j))->
   x'.cells.length=m/\∀j,j<m->Rel (Con.lend (grow K.I B0 w) (jm K.IM B0 w)) T' w (x'.cells.getD j undefV) (val j):=by
   intro x x' m val hx hm hv
   by_cases hag:∃cs,x= .agg cs
   ·obtain⟨cs,rfl⟩:=hag
    obtain⟨cs',rfl⟩:=JE hx
    have hm':cs.length=m:=hm
    have hcell:∀j,j<m->(Array.ofFn fun i:Fin m=>val i).getD j undef=val j:=fun j hj=>by simp[Array.getD,hj]
    have r:Rel K σ.top w (.agg cs) (.agg (Array.ofFn fun i:Fin m=>val i)):=.agg _ _ (by simpa using hm') (fun i hi=>by
     rw[hcell i (by omega)];exact hv i (by omega))
    obtain⟨g1,g2⟩:=JD (ih _ _ _ r hx)
    have g1':cs'.length=m:=by simpa using g1
    exact⟨g1',fun j hj=>by have:=g2 j (by omega);rw[hcell j hj] at this;exact this⟩
   ·obtain⟨h1,h2⟩:=JF (fun cs e=>hag ⟨cs,e⟩) hx
    rw[h2] at hm hv
    have hm1:m=1:=by simpa using hm.symm
    subst hm1
    rw[h1]
    refine⟨rfl,fun j hj=>?_⟩
    have hj0:j=0:=by omega
    subst hj0
    exact ih _ _ _ (hv 0 (by omega)) hx
  have rZ:∀loc s cs,σ.cellsAt loc s=some cs->cs≠[]->∃vals t,w.heap[K.blk s]? =some (.cells vals t (0,0))/\vals.size=K.sz s/\cs.length<=vals.size/\B0<=K.blk s/\
   (∀i,i<cs.length->Rel K σ.top w (cs.getD i undefV) (vals.getD i undef))/\∀i,i<vals.size->w.cell? (at_ (K.blk s) i)=some (vals.getD i undef):=by
   intro loc s cs hcs hne
   obtain⟨g1,_,_⟩:=h.iQ hcs
   obtain⟨a1,a2,a3⟩:=h.obj _ _ _ g1
   obtain⟨b1,vals,t,b2,b3,b4,b5⟩:=a2.2 hne
   refine⟨vals,t,b2,b3,b4,b1,b5,fun i hi=>?_⟩
   simp[World.cell?,b2,Array.getD,hi]
  unfold closeV at hc
  split at hc
  ·rename_i hp
   simp only[iE] at hc
   subst hc
   exact hr.pure hp jZ kY
  ·cases hr with
   |aV c a ha hcn=>
    simp only[List.mapM_nil,Option.pure_def,Option.map_some,iE] at hc
    subst hc;exact .aV .sh a (fun h=>by cases h) trivial
   |lst c l b o m cap val hle hn hcell hrel hcap=>
    simp only[RF] at hc
    obtain⟨l',hm,rfl⟩:=hc
    obtain⟨h1,h2⟩:=mapM_some hm
    have hel:∀i,i<l'.length->(l'.getD i undefV).cells.length=m/\∀j,j<m->Rel (Con.lend (grow K.I B0 w) (jm K.IM B0 w)) T' w ((l'.getD i undefV).cells.getD j undefV) (val i j):=by
     intro i hi
     obtain⟨h3,h4⟩:=h2 i (by omega)
     rw[bX h3]
     refine hcells _ _ m (val i) h4 ?_ (fun j hj=>?_)
     ·have:=hn i (by omega);rwa[bX (show i<l.length by omega)] at this
     ·have:=hrel i j (by omega) hj;rwa[bX (show i<l.length by omega)] at this
    rw[h1]
    refine .lst .sh l' b o m cap val (by omega) (fun i hi=>(hel i hi).1) (fun i j hi hj=>?_) (fun i j hi hj=>(hel i hi).2 j hj) trivial
    obtain⟨e1,e2⟩:=hcell i j (by omega) hj
    exact⟨e1,(jZ _ _ e2).1⟩
   |agg cs vs hl hrel=>
    simp only[RF] at hc
    obtain⟨l',hm,rfl⟩:=hc
    obtain⟨h1,h2⟩:=hlist _ _ (fun i=>vs.getD i undef) hm hrel
    exact .agg _ _ (by omega) h2
   |tup cs vs hl hrel=>
    simp only[RF] at hc
    obtain⟨l',hm,rfl⟩:=hc
    obtain⟨h1,h2⟩:=hlist _ _ (fun i=>vs.getD i undef) hm hrel
    exact .tup _ _ (by omega) h2
   |cref cs off b o val hcell hrel=>
    simp only[RF] at hc
    obtain⟨l',hm,rfl⟩:=hc
    obtain⟨h1,h2⟩:=hlist _ _ val hm hrel
    exact .cref l' off b o val (fun j hj=>⟨(hcell j (by omega)).1,(jZ _ _ (hcell j (by omega)).2).1⟩) h2
   |fn f a b av bv ha hb ra rb=>
    simp only[iP,RF] at hc
    obtain⟨a',hma,b',hmb,rfl⟩:=hc
    obtain⟨h1,h2⟩:=hlist _ _ (fun i=>av.getD i undef) hma ra
    obtain⟨h3,h4⟩:=hlist _ _ (fun i=>bv.getD i undef) hmb rb
    exact .fn f a' b' av bv (by omega) (by omega) h2 h4
   |ref loc s off hA=>
    simp only[iP,RF] at hc
    obtain⟨cs,hcs,cs',hm,rfl⟩:=hc
    have key:Rel (Con.lend (grow K.I B0 w) (jm K.IM B0 w)) T' w (.cref cs' off) (.pointer (some (at_ (K.blk s) (0+off)))):=by
     by_cases hne:cs=[]
     ·subst hne
      simp only[List.mapM_nil,Option.pure_def,iE] at hm
      subst hm
      exact .cref [] off _ 0 (fun _=>undef) (fun j hj=>absurd hj (RI j)) (fun j hj=>absurd hj (RI j))
     ·obtain⟨vals,t,e1,e2,e3,e4,e5,e6⟩:=rZ _ _ _ hcs hne
      obtain⟨h1,h2⟩:=hlist _ _ (fun i=>vals.getD i undef) hm e5
      refine .cref cs' off _ 0 (fun i=>vals.getD i undef) (fun j hj=>?_) h2
      rw[Sr]
      exact⟨e6 j (by omega),.inr e4,_,e6 j (by omega)⟩
    rwa[Sr] at key
   |dM loc s au ag hA=>
    simp only[iP] at hc
    obtain⟨cs,hcs,hc⟩:=hc
    split at hc
    ·simp only[iP] at hc
     obtain⟨cs',hm,hc⟩:=hc
     split at hc
     ·simp only[iE] at hc
      subst hc;exact .aV .sh none (fun _=>rfl) trivial
     ·simp at hc
    ·simp at hc
   |vw loc s off len cap au ag aM hA hcp hle hsz=>
    simp only[iP] at hc
    obtain⟨cs,hcs,hc⟩:=hc
    split at hc
    ·rename_i hlen
     simp only[iP] at hc
     obtain⟨cs',hm,hc⟩:=hc
     split at hc
     ·rename_i hag
      simp only[iE] at hc
      subst hc
      have qb:ag=false->au=1:=fun e=>by simp[e] at hag;exact hag.1
      have qc:ag=false->oneCells cs'=true:=fun e=>by simp[e] at hag;exact hag.2
      have hl':((cs.drop off).take (len*au)).length=len*au:=by simp;omega
      by_cases hne:cs=[]
      ·subst hne
       have h0:len*au=0:=by simp at hlen;omega
       have hd:(([]:List V).drop off).take (len*au)=[]:=by simp
       rw[hd] at hm
       simp only[List.mapM_nil,Option.pure_def,iE] at hm
       subst hm
       exact nQ (w:=w) (val:=fun _=>undef) qb (by rw[h0];exact Sb _) qc (fun j hj=>by omega) (fun j hj=>by omega) (by omega) trivial
      ·obtain⟨vals,t,e1,e2,e3,e4,e5,e6⟩:=rZ _ _ _ hcs hne
       obtain⟨h1,h2⟩:=hlist _ _ (fun i=>vals.getD (off+i) undef) hm (fun i hi=>by
        rw[hl'] at hi
        rw[fM _ hi,gL]
        exact e5 _ (by omega))
       rw[hl'] at h1
       refine nQ (w:=w) (val:=fun i=>vals.getD (off+i) undef) qb (by omega) qc (fun j hj=>⟨e6 _ (by omega),.inr e4,_,e6 _ (by omega)⟩) (fun j hj=>h2 j (by omega)) (by omega) trivial
     ·simp at hc
    ·simp at hc
   |mapr loc s hA=>
    simp only[iP] at hc
    obtain⟨⟨ks,vs⟩,hmp,hc⟩:=hc
    simp only[iP,RF] at hc
    obtain⟨ks',hk,vs',hv,rfl⟩:=hc
    have bY:σ.obj loc=some (s,.map ks vs):=by
     unfold Sig.bD at hmp
     split at hmp
     ·rename_i s' Rk vs0 ho
      split at hmp
      ·rename_i hs
       simp only[iE,iR] at hmp
       obtain⟨rfl,rfl⟩:=hmp
       rw[ho,hs]
      ·simp at hmp
     ·simp at hmp
    obtain⟨_,⟨a1,es,aI,a2,a3,a4,a5,a6⟩,_⟩:=h.obj _ _ _ bY
    obtain⟨h1,h2⟩:=hlist _ _ (fun i=>(es.getD i default).key) hk (fun i hi=>a5 i (by omega))
    obtain⟨h3,h4⟩:=hlist _ _ (fun i=>(es.getD i default).val) hv (fun i hi=>a6 i (by omega))
    exact .mapc ks' vs' _ es aI ⟨.inr a1,es,aI,a2⟩ a2 (by omega) (by omega) (fun i hi=>h2 i (by omega)) (fun i hi=>h4 i (by omega))
   |mapc ks vs b es aI hM hb hk hv rk rv=>
    simp only[iP,RF] at hc
    obtain⟨ks',hk',vs',hv',rfl⟩:=hc
    obtain⟨h1,h2⟩:=hlist _ _ (fun i=>(es.getD i default).key) hk' (fun i hi=>rk i (by omega))
    obtain⟨h3,h4⟩:=hlist _ _ (fun i=>(es.getD i default).val) hv' (fun i hi=>rv i (by omega))
    exact .mapc ks' vs' b es aI (kY b hM).1 hb (by omega) (by omega) (fun i hi=>h2 i (by omega)) (fun i hi=>h4 i (by omega))
   |iface t x c hx=>
    simp only[RF] at hc
    obtain⟨x',hx',rfl⟩:=hc
    exact .iface t x' c (ih _ _ _ hx hx')
   |_=>simp at hc
end
def sV (E:Env) (I:Nat->Nat->Prop) (IM:Nat->Prop) (w:World):Prop:=
 (∀b o,I b o->∃v,w.cell? (at_ b o)=some v)/\(∀b,IM b->∃es aI,w.heap[b]? =some (.map es aI))/\
 ∀g cs,E.glob g=some cs->Rel (Con.lend I IM) (fun _=>0) w (.cref cs 0) (.pointer (some (at_ g 0)))
def BO (I:Nat->Nat->Prop) (IM:Nat->Prop) (w:World) (v:V):Ending->World->Prop
 |.returned c,w'=>Below w.heap.size w w'/\Rel (Con.lend (grow I w.heap.size w') (jm IM w.heap.size w')) (fun _=>0) w' v c
 |_,_=>False
def PureOK (E:Env) (f:FuncId) (args:List V) (v:V):Prop:=
 HasBody E f/\∀I IM w cargs,sV E I IM w->RelA (Con.lend I IM) (fun _=>0) w args cargs->CallsIn Fence.wide 0 E.P f cargs w (BO I IM w v)
structure EnvOK (E:Env):Prop where
 name:∀(f:FuncId) (fn:Func),E.P.funcs[f]? =some fn->fn.name≠ "runtime.NumGoroutine"
 summ:∀f g,E.summ f=some g->∀args v,g args=some v->PureOK E f args v
 mixed:E.P.follows .mixedOrders=true
 flat:∀g cs,E.glob g=some cs->pcleanL cs=true
section
variable {E:Env} {S:bG} {K K':Con} {T T':Nat->Nat} {w w':World} {σ σ':Sig} {B0:Nat}
theorem Rel.qh {I:Nat->Nat->Prop} {IM:Nat->Prop} {v:V} {c:Value} (h:Rel (Con.lend I IM) T w v c) (hI:∀b o,I b o->K'.I b o/\w'.cell? (at_ b o)=w.cell? (at_ b o))
 (hM:∀b,IM b->K'.IM b/\w'.heap[b]? =w.heap[b]?):Rel K' T' w' v c:=by
 generalize hK:Con.lend I IM=K at h
 induction h with
 |int k n=>exact .int k n
 |bool b=>exact .bool b
 |str s b h=>exact .str s b h
 |nilp=>exact .nilp
 |nilf=>exact .nilf
 |nilm=>exact .nilm
 |nili=>exact .nili
 |agg cs vs hl _ ih=>exact .agg cs vs hl (fun i hi=>ih i hi)
 |tup cs vs hl _ ih=>exact .tup cs vs hl (fun i hi=>ih i hi)
 |aV c a ha hc=>
  cases c with
  |own n s=>subst hK;exact hc.1.elim
  |_=>exact .aV _ a ha trivial
 |lst c l b o n cap val hle hn hcell _ hc ih=>
  refine .lst c l b o n cap val hle hn (fun i j hi hj=>?_) ih ?_
  ·obtain⟨h1,h2⟩:=hcell i j hi hj
   subst hK
   obtain⟨g1,g2⟩:=hI _ _ h2
   exact⟨g2.trans h1,g1⟩
  ·cases c with
   |own n s=>subst hK;exact hc.2.1.elim
   |sh=>trivial
   |full=>exact hc
   |nil=>exact hc
 |vw loc s off len cap au ag aM hA hc hle hsz=>subst hK;exact hA.elim
 |dM loc s au ag hA=>subst hK;exact hA.elim
 |cref cs off b o val hcell _ ih=>
  refine .cref cs off b o val (fun j hj=>?_) ih
  obtain⟨h1,h2⟩:=hcell j hj
  subst hK
  obtain⟨g1,g2⟩:=hI _ _ h2
  exact⟨g2.trans h1,g1⟩
 |ref loc s off hA=>subst hK;exact hA.elim
 |fn f a b av bv ha hb _ _ iha ihb=>exact .fn f a b av bv ha hb iha ihb
 |yield l hA=>subst hK;exact hA.elim
 |mapr loc s hA=>subst hK;exact hA.elim
 |mapc ks vs b es aI hM' hb hk hv _ _ ihk pQ=>
  subst hK
  obtain⟨g1,g2⟩:=hM b hM'
  exact .mapc ks vs b es aI g1 (g2.trans hb) hk hv ihk pQ
 |iface t v c _ ih=>exact .iface t v c ih
 |raw v=>exact .raw v
theorem sW {B b o:Nat} (h:Below B w w') (hb:b<B):w'.cell? (at_ b o)=w.cell? (at_ b o):=cell_of_heap (h.block b hb)
theorem wO {I:Nat->Nat->Prop} {IM:Nat->Prop} (h:sV E I IM w):ay E w.heap.size Sig.init (Con.lend I IM) w where
 obj loc s ob hs:=by simp[Sig.init] at hs
 own s hs:=hs.elim
 I b o hi:=⟨h.1 b o hi,fun loc e=>by simp[Con.lend] at e⟩
 IM b hi:=⟨h.2.1 b hi,fun loc e=>by simp[Con.lend] at e⟩
 loop l r hl:=by simp[Sig.init] at hl
 glob g cs hg:=by
  have:=h.2.2 g cs hg
  exact this.qh (fun _ _ h=>⟨h,rfl⟩) (fun _ h=>⟨h,rfl⟩)
 rb b r hr:=by simp[Con.lend] at hr
 D b hd:=hd.elim
theorem callPure_sound (hE:EnvOK E) (hS:nZ E S.call) {f:FuncId} {args:List V} {v:V} (h:callPure E S f args=some v):PureOK E f args v:=by
 unfold callPure at h
 split at h
 ·rename_i g hg
  exact hE.summ f g hg args v h
 ·simp only[iP] at h
  obtain⟨⟨v0,σ1⟩,hc,h⟩:=h
  obtain⟨_,hb,hs⟩:=hS _ _ _ _ _ _ hc
  refine⟨hb,fun I IM w cargs hl hr=>?_⟩
  have hr':RelA (Con.lend I IM) Sig.init.top w args cargs:=hr
  refine(hs none w.heap.size (Con.lend I IM) w cargs (wO hl) (mF _) (fun s hs=>hs.elim) hr').mono ?_
  intro e w' hp
  cases e with
  |returned c=>
   obtain⟨K1,r1,s1,_,st⟩:=hp
   refine⟨st.below,?_⟩
   have:=wN (T':=fun _=>0) s1 20 v0 v c r1 h
   refine this.qh (fun b o hi=>⟨⟨?_,hi.2⟩,rfl⟩) (fun b hi=>⟨⟨?_,hi.2⟩,rfl⟩)
   ·rcases hi.1 with h1|h1
    ·exact st.nI b o h1
    ·exact .inr h1
   ·rcases hi.1 with h1|h1
    ·exact st.gZ b h1
    ·exact .inr h1
  |panicked ch=>exact hp.elim
  |outgrown=>exact hp.elim
theorem Step.grow (h:ay E B0 σ K w) (hB:B0<=w.heap.size) {new:Nat->Prop} (hb:Below w.heap.size w w'):
 Step E B0 new σ K w σ {K with I:=Aq.grow K.I w.heap.size w',IM:=jm K.IM w.heap.size w'} w':=by
 have jZ:∀b o,K.I b o->w'.cell? (at_ b o)=w.cell? (at_ b o):=fun b o hi=>sW hb (lt_of_cell (h.I b o hi).1.choose_spec)
 have kY:∀b,K.IM b->w'.heap[b]? =w.heap[b]? :=fun b hi=>by
  obtain⟨⟨es,aI,h1⟩,_⟩:=h.IM b hi
  exact hb.block b (lt_of_heap h1)
 have e:Ext K σ.top w {K with I:=Aq.grow K.I w.heap.size w',IM:=jm K.IM w.heap.size w'} σ.top w':=
  ⟨fun _ h=>⟨h,rfl,rfl,rfl⟩,fun _ _=>.inl ⟨rfl,rfl,rfl,rfl⟩,fun b o hi=>⟨⟨.inl hi,by rw[jZ b o hi];exact(h.I b o hi).1⟩,jZ b o hi⟩,
    fun b hi=>⟨⟨.inl hi,by rw[kY b hi];exact(h.IM b hi).1⟩,kY b hi⟩⟩
 refine⟨⟨fun loc s ob hs=>?_,fun s hs hl=>?_,fun b o hi=>⟨hi.2,?_⟩,fun b hi=>⟨hi.2,?_⟩,fun l r hl=>?_,fun g cs hg=>(h.glob g cs hg).ext e,fun b r hr=>?_,fun b hd=>?_⟩,e,
  ⟨hb.os,hb.tape,hb.output,hb.size,fun k hk=>hb.block k (by omega)⟩,fun _ h=>h,fun _ h=>.inl h,fun b o hi=>hi.1.imp id (by omega),fun b hi=>hi.1.imp id (by omega)⟩
 ·obtain⟨a1,a2,a3⟩:=h.obj loc s ob hs
  exact⟨a1,a2.ext e a1 (fun hr=>hb.block _ (h.rb _ _ (a3 hr)).1),a3⟩
 ·obtain⟨a1,a2,a3⟩:=h.own s hs hl
  have hlt:=(h.rb _ _ a2).1
  refine⟨a1,a2,fun o h1 h2=>?_⟩
  obtain⟨c1,⟨v,c2⟩,c3⟩:=a3 o h1 h2
  refine⟨fun hi=>?_,⟨v,(sW hb hlt).trans c2⟩,?_⟩
  ·rcases hi.1 with h1|h1
   ·exact c1 h1
   ·have:w.heap.size<=K.ob s:=h1
    omega
  ·rw[frozen_of_heap (hb.block _ hlt)];exact c3
 ·intro loc hρ
  rcases hi.1 with h1|h1
  ·exact(h.I b o h1).2 loc hρ
  ·have:=(h.rb _ _ hρ).1;omega
 ·intro loc hρ
  rcases hi.1 with h1|h1
  ·exact(h.IM b h1).2 loc hρ
  ·have:=(h.rb _ _ hρ).1;omega
 ·obtain⟨a1,a2⟩:=h.loop l r hl
  exact⟨a1,a2.ext e a1 (hb.block _ (h.rb _ _ a2.2.1).1) rfl⟩
 ·have:=h.rb b r hr;exact⟨RS this.1 hb.size,this.2⟩
 ·have:=h.D b hd
  rw[hb.block b (lt_of_heap this)];exact this
def Con.eB (K:Con) (B:Nat) (w':World) (st ob lo hi:Nat):Con:=
 {K with A:=fun x=>K.A x\/x=st,ob:=upd K.ob st ob,lo:=upd K.lo st lo,hi:=upd K.hi st hi,I:=fun b o=>Aq.grow K.I B w' b o/\¬(b=ob/\lo<=o/\o<hi),IM:=jm K.IM B w',ρ:=fun b=>if b=ob/\lo<hi then some (.own st) else K.ρ b}
theorem Step.eB (h:ay E B0 σ K w) (hB:B0<=w.heap.size) {st T1:Nat} (hst:¬K.A st) (hb:Below w.heap.size w w') {ob lo hi:Nat}
 (ho:lo<hi->w.heap.size<=ob/\∀o,lo<=o->o<hi->(∃v,w'.cell? (at_ ob o)=some v)/\w'.frozen? (at_ ob o)=false):
 Step E B0 (· =st) σ K w (σ.aL st T1) (K.eB w.heap.size w' st ob lo hi) w':=by
 have jZ:∀b o,K.I b o->w'.cell? (at_ b o)=w.cell? (at_ b o):=fun b o hi=>sW hb (lt_of_cell (h.I b o hi).1.choose_spec)
 have kY:∀b,K.IM b->w'.heap[b]? =w.heap[b]? :=fun b hi=>by
  obtain⟨⟨es,aI,h1⟩,_⟩:=h.IM b hi
  exact hb.block b (lt_of_heap h1)
 have hne:∀x,K.A x->x≠st:=fun x hx e=>hst (e▸hx)
 have wP:∀b,b<w.heap.size->(K.eB w.heap.size w' st ob lo hi).ρ b=K.ρ b:=fun b hbl=>by
  show (if b=ob/\lo<hi then some (nH.own st) else K.ρ b)=K.ρ b
  rw[if_neg]
  rintro⟨rfl,h2⟩
  have:=(ho h2).1
  omega
 have hold:∀b o,b<w.heap.size->¬(b=ob/\lo<=o/\o<hi):=by
  rintro b o hbl ⟨rfl,h2,h3⟩
  have:=(ho (by omega)).1
  omega
 have e:Ext K σ.top w (K.eB w.heap.size w' st ob lo hi) (σ.aL st T1).top w':=
  ⟨fun _ h=>⟨.inl h,rfl,rfl,rfl⟩,fun x hx=>.inl ⟨upd_ne _ _ (hne x hx),upd_ne _ _ (hne x hx),upd_ne _ _ (hne x hx),upd_ne _ _ (hne x hx)⟩,
    fun b o hi=>⟨⟨⟨.inl hi,by rw[jZ b o hi];exact(h.I b o hi).1⟩,hold b o (lt_of_cell (h.I b o hi).1.choose_spec)⟩,jZ b o hi⟩,
    fun b hi=>⟨⟨.inl hi,by rw[kY b hi];exact(h.IM b hi).1⟩,kY b hi⟩⟩
 refine⟨⟨fun loc s x hs=>?_,fun s hs hl=>?_,fun b o hq=>⟨hq.1.2,?_⟩,fun b hq=>⟨hq.2,?_⟩,fun l r hl=>?_,fun g cs hg=>(h.glob g cs hg).ext e,fun b r hr=>?_,fun b hd=>?_⟩,e,
  ⟨hb.os,hb.tape,hb.output,hb.size,fun k hk=>hb.block k (by omega)⟩,fun _ h=>h,fun _ h=>h,fun b o hi=>hi.1.1.imp id (by omega),fun b hi=>hi.1.imp id (by omega)⟩
 ·obtain⟨a1,a2,a3⟩:=h.obj loc s x hs
  refine⟨.inl a1,a2.ext e a1 (fun hr=>hb.block _ (h.rb _ _ (a3 hr)).1),fun hr=>?_⟩
  show (K.eB w.heap.size w' st ob lo hi).ρ (K.blk s)=_
  rw[wP _ (h.rb _ _ (a3 hr)).1];exact a3 hr
 ·by_cases hxs:s=st
  ·subst hxs
   have q1:(K.eB w.heap.size w' s ob lo hi).ob s=ob:=upd_same _ _ _
   have q2:(K.eB w.heap.size w' s ob lo hi).lo s=lo:=upd_same _ _ _
   have q3:(K.eB w.heap.size w' s ob lo hi).hi s=hi:=upd_same _ _ _
   rw[q2,q3] at hl
   obtain⟨o1,o2⟩:=ho hl
   refine⟨by rw[q1];omega,?_,fun o h1 h2=>?_⟩
   ·rw[q1]
    show (if ob=ob/\lo<hi then some (nH.own s) else K.ρ ob)=_
    rw[if_pos ⟨rfl,hl⟩]
   ·rw[q2] at h1;rw[q3] at h2;rw[q1]
    exact⟨fun hI=>hI.2 ⟨rfl,h1,h2⟩,(o2 o h1 h2).1,(o2 o h1 h2).2⟩
  ·have hA:K.A s:=hs.resolve_right hxs
   have q1:(K.eB w.heap.size w' st ob lo hi).ob s=K.ob s:=upd_ne _ _ hxs
   have q2:(K.eB w.heap.size w' st ob lo hi).lo s=K.lo s:=upd_ne _ _ hxs
   have q3:(K.eB w.heap.size w' st ob lo hi).hi s=K.hi s:=upd_ne _ _ hxs
   rw[q2,q3] at hl
   obtain⟨a1,a2,a3⟩:=h.own s hA hl
   have hlt:=(h.rb _ _ a2).1
   refine⟨by rw[q1];exact a1,by rw[q1,wP _ hlt];exact a2,fun o h1 h2=>?_⟩
   rw[q2] at h1;rw[q3] at h2;rw[q1]
   obtain⟨c1,⟨v,c2⟩,c3⟩:=a3 o h1 h2
   refine⟨fun hi=>?_,⟨v,(sW hb hlt).trans c2⟩,?_⟩
   ·rcases hi.1.1 with h1|h1
    ·exact c1 h1
    ·omega
   ·rw[frozen_of_heap (hb.block _ hlt)];exact c3
 ·intro loc hρ
  have j4:(if b=ob/\lo<hi then some (nH.own st) else K.ρ b)=some (.obj loc):=hρ
  split at j4
  ·cases j4
  ·rcases hq.1.1 with h1|h1
   ·exact(h.I b o h1).2 loc j4
   ·have:=(h.rb _ _ j4).1;omega
 ·intro loc hρ
  have j4:(if b=ob/\lo<hi then some (nH.own st) else K.ρ b)=some (.obj loc):=hρ
  split at j4
  ·cases j4
  ·rcases hq.1 with h1|h1
   ·exact(h.IM b h1).2 loc j4
   ·have:=(h.rb _ _ j4).1;omega
 ·obtain⟨a1,a2⟩:=h.loop l r hl
  exact⟨.inl a1,a2.ext e a1 (hb.block _ (h.rb _ _ a2.2.1).1) (wP _ (h.rb _ _ a2.2.1).1)⟩
 ·have hr':(if b=ob/\lo<hi then some (nH.own st) else K.ρ b)=some r:=hr
  split at hr'
  ·rename_i hc
   obtain⟨o1,o2⟩:=ho hc.2
   obtain⟨⟨v,hv⟩,_⟩:=o2 lo (mF _) hc.2
   rw[hc.1]
   exact⟨lt_of_cell hv,by omega⟩
  ·have:=h.rb b r hr';exact⟨RS this.1 hb.size,this.2⟩
 ·have:=h.D b hd
  rw[hb.block b (lt_of_heap this)];exact this
end
section
variable {E:Env} {S:bG} {K K':Con} {w w':World} {σ σ':Sig} {B0:Nat}
theorem wQ (w:World) (b:Nat) (o:Obj):Only b w (w.putObj b o):=⟨rfl,rfl,rfl,by simp,fun _ hk _=>World.putObj_heap_other hk⟩
theorem Step.bA (h:ay E B0 σ K w) (hB:B0<=w.heap.size) {new:Nat->Prop} {l:Nat} {r r':fT} (hl:σ.loops l=some r) (h1:r'.fr=r.fr) (h2:r'.ps=r.ps) (h3:r'.aK=r.aK) (h4:r'.body=r.body)
 {rec:Go.Loop} (hr:w.heap[K.lp l]? =some (.loop rec)):
 Step E B0 new σ K w (σ.bA l r') K (w.putObj (K.lp l) (.loop {rec with state:=fD r'.st,pending:=r'.pend.bind fJ})):=by
 obtain⟨hA,hb0,hρ,fn,tmps,D,hh,hf,hok⟩:=h.loop l r hl
 have hrec:rec={state:=fD r.st,pending:=r.pend.bind fJ,fn:=fn,tmps:=tmps,params:=r.ps.toArray,assign:=r.aK,body:=r.body,defers:=D}:=by
  rw[hh] at hr;simpa using hr.symm
 have hlt:=lt_of_heap hr
 have ho:=wQ w (K.lp l) (.loop {rec with state:=fD r'.st,pending:=r'.pend.bind fJ})
 have hnew:(w.putObj (K.lp l) (.loop {rec with state:=fD r'.st,pending:=r'.pend.bind fJ})).heap[K.lp l]? =some (.loop {rec with state:=fD r'.st,pending:=r'.pend.bind fJ}):=World.putObj_heap_same hlt
 have hcell:∀b o v,w.cell? (at_ b o)=some v->b≠K.lp l:=fun b o v hv e=>by
  subst e
  simp[World.cell?,hr] at hv
 have e:Ext K σ.top w K σ.top (w.putObj (K.lp l) (.loop {rec with state:=fD r'.st,pending:=r'.pend.bind fJ})):=by
  refine⟨fun _ h=>⟨h,rfl,rfl,rfl⟩,fun _ _=>.inl ⟨rfl,rfl,rfl,rfl⟩,fun b o hi=>⟨hi,?_⟩,fun b hi=>⟨hi,?_⟩⟩
  ·obtain⟨⟨v,hv⟩,_⟩:=h.I b o hi
   exact cell_of_heap (ho.block b (hcell b o v hv) (lt_of_cell hv))
  ·obtain⟨⟨es,aI,hv⟩,_⟩:=h.IM b hi
   exact ho.block b (fK hv hr (by simp)) (lt_of_heap hv)
 refine⟨?_,e,ho.below hb0 hB,fun _ h=>h,fun _ h=>.inl h,fun _ _ h=>.inl h,fun _ h=>.inl h⟩
 refine h.upd (σ':=σ.bA l r') ho e (fun _ _=>rfl) (fun r hr'=>⟨by simpa using hlt,hb0⟩) ?_ ?_ ?_ ?_ ?_ ?_
 ·intro loc s ob hs
  refine .inl ⟨hs,fun dG=>?_⟩
  intro e'
  have:=(h.obj loc s ob hs).2.2 dG
  rw[e',hρ] at this
  cases this
 ·intro s hs hlt'
  refine .inl ⟨hs,rfl,rfl,rfl,fun e'=>?_⟩
  have:=(h.own s hs hlt').2.1
  rw[e',hρ] at this
  cases this
 ·intro b' o hi
  obtain⟨⟨v,hv⟩,_⟩:=h.I b' o hi
  exact .inl ⟨hi,hcell b' o v hv⟩
 ·intro b' hi
  obtain⟨⟨es,aI,hv⟩,_⟩:=h.IM b' hi
  exact .inl ⟨hi,fK hv hr (by simp)⟩
 ·intro l' r1 hl'
  by_cases hll:l'=l
  ·subst hll
   right
   have hr1:r'=r1:=by simpa [Sig.bA,upd] using hl'
   subst hr1
   refine⟨hA,hb0,hρ,fn,tmps,D,?_,?_,?_⟩
   ·rw[hnew,hrec,h2,h3,h4]
   ·rw[h1];exact hf.ext e
   ·rw[h2,h3,h4];exact hok
  ·left
   have hl1:σ.loops l'=some r1:=by simpa [Sig.bA,upd,hll] using hl'
   refine⟨hl1,fun e'=>?_⟩
   have:=(h.loop l' r1 hl1).2.2.1
   rw[e',hρ] at this
   cases this
   exact hll rfl
 ·intro b' hd
  exact .inl ⟨hd,fK (h.D b' hd) hr (by simp)⟩
theorem BP {T:Nat->Nat}:∀(ps:List Nat) (args:List V) (cs:List Value) (fr:Fr) (tmps:Array Value),ps.length=args.length->args.length=cs.length->bT K T w fr tmps->(∀i,i<args.length->Rel K T w (args.getD i undefV) (cs.getD i undef))->
 (∀p∈ps,p<tmps.size)->bT K T w {fr with tm:=(ps.zip args).foldl (fun tm (p,a)=>upd tm p a) fr.tm} ((ps.zip cs).foldl (fun tmps (t,a)=>tmps.setIfInBounds t a) tmps)/\
   ((ps.zip cs).foldl (fun tmps (t,a)=>tmps.setIfInBounds t a) tmps).size=tmps.size:=by
 intro ps
 induction ps with
 |nil=>intro args cs fr tmps _ _ hf _ _;exact⟨hf,rfl⟩
 |cons p ps ih=>
  intro args cs fr tmps hl hl2 hf hr hp
  cases args with
  |nil=>simp at hl
  |cons a args=>
   cases cs with
   |nil=>simp at hl2
   |cons c cs=>
    have hput:=bT.put (K:=K) (w:=w) (T:=T) (a:={tmps:=tmps,defers:=[]}) hf (d:=some p) (v:=a) (c:=c) (hr 0 (by simp)) (fun i hi=>by cases hi;exact hp p (by simp))
    have:=ih args cs (fr.set p a) (tmps.setIfInBounds p c) (by simpa using hl) (by simpa using hl2) hput (fun i hi=>hr (i+1) (by simpa using hi)) (fun q hq=>by simpa using hp q (by simp[hq]))
    refine⟨this.1,this.2.trans (by simp)⟩
theorem zip_toArray (ps:List Nat) (cs tmps:Array Value):
 (ps.toArray.zip cs).foldl (fun tmps (t,a)=>tmps.setIfInBounds t a) tmps=(ps.zip cs.toList).foldl (fun tmps (t,a)=>tmps.setIfInBounds t a) tmps:=by
 rw[<-Array.foldl_toList]
 congr 1
 simp
theorem JG (hS:jG E S.code) (h:ay E B0 σ K w) (hB:B0<=w.heap.size) (hA:∀s,K.A s->s<σ.next) {l:Nat} {args:List V} {cargs:Array Value} {v:V}
 (hv:jh S l args σ=some (v,σ')) (ra:RelA K σ.top w args cargs):
 σ.next<=σ'.next/\∃fn tmps aK body,(Instr.yield (K.lp l) cargs).run E.P w= .ok (.round (K.lp l) fn tmps aK body) w/\RoundIn Fence.wide 0 E.P (K.lp l) fn tmps aK body w (iA E B0 σ K w v σ'):=by
 unfold jh at hv
 simp only[iP] at hv
 obtain⟨r,hl,hv⟩:=hv
 split at hv
 ·rename_i hst
  simp only[iP] at hv
  obtain⟨⟨e1,aB,σ1⟩,j5,hv⟩:=hv
  cases e1 with
  |normal=>
   simp only[iP] at hv
   obtain⟨r1,hl1,hv⟩:=hv
   split at hv
   ·rename_i jH
    simp only[iP] at hv
    obtain⟨⟨e2,aW,σ2⟩,hbody,r2,hl2,hv⟩:=hv
    split at hv
    ·rename_i Rm
     obtain⟨wR,hb0,hρ,fn,tmps,D,hh,hf,hok1,hok2,hps,hn1,hn2⟩:=h.loop l r hl
     obtain⟨hle1,hw1⟩:=hS _ _ _ _ _ _ j5
     obtain⟨hle2,hw2⟩:=hS _ _ _ _ _ _ hbody
     have wS:σ1.next<=σ2.next:=hle2
     have hnext:σ'.next=σ2.next:=by
      cases e2<;>simp only[iE,iR] at hv<;>obtain⟨_,rfl⟩:=hv<;>rfl
     refine⟨by omega,?_⟩
     have hsz:cargs.size=r.ps.length:=by have:=ra.1;omega
     have mo:=run_yield (P:=E.P) (args:=cargs) hh (by simpa using hsz)
     refine⟨_,_,_,_,mo,?_⟩
     dsimp only
     rw[zip_toArray]
     have mq:=BP (K:=K) (w:=w) (T:=σ.top) r.ps args cargs.toList r.fr tmps hst.2 (by have:=ra.1;simpa using this) hf (fun i hi=>by rw[nU];exact ra.2 i hi) hps
     generalize JH:(r.ps.zip cargs.toList).foldl (fun tmps (t,a)=>tmps.setIfInBounds t a) tmps=wT at mq
     refine roundIn_of_wpIn trivial ?_
     have hs0:St E B0 σ K w {r.fr with tm:=(r.ps.zip args).foldl (fun tm (p,a)=>upd tm p a) r.fr.tm} {tmps:=wT,defers:=[]} tmps.size ⟨[],0,true⟩:=
      ⟨h,hB,mq.1,mq.2,⟨[],rfl,List.nodup_nil,(fun b hb=>by cases hb),fun _=>rfl⟩,hA,Sb _⟩
     refine wpIn_mono (hw1 (some (K.lp l)) B0 K w _ tmps.size ⟨[],0,true⟩ hs0 hok1 (.inr hn1)) ?_
     rintro x a1 w1 ⟨hx,K1,hs1,st1⟩
     cases x<;>simp only[dx] at hx
     obtain⟨BQ,hb1,JI,qj,ql,D1,qm,hf1,_⟩:=hs1.ok.loop l r1 hl1
     have j6:K1.lp l=K.lp l:=(st1.ext.A l wR).2.2.1
     have hbr:=run_beginRound (P:=E.P) qm (by simp[fD,jH])
     have kg:=Step.bA (new:=newer σ1 (σ1.bA l {r1 with st:=1})) hs1.ok hs1.hB (r':={r1 with st:=1}) hl1 rfl rfl rfl rfl qm
     rw[j6] at hbr
     refine⟨_,hbr,?_⟩
     have wU:(w1.putObj (K.lp l) (.loop {state:=LoopState.busy,pending:=r1.pend.bind fJ,fn:=qj,tmps:=ql,params:=r1.ps.toArray,assign:=r1.aK,body:=r1.body,defers:=D1}))=
      (w1.putObj (K1.lp l) (.loop {({state:=fD r1.st,pending:=r1.pend.bind fJ,fn:=qj,tmps:=ql,params:=r1.ps.toArray,assign:=r1.aK,body:=r1.body,defers:=D1}:Go.Loop) with state:=fD 1,pending:=r1.pend.bind fJ})):=by
      rw[j6];rfl
     dsimp only
     rw[wU]
     have wV:St E B0 (σ1.bA l {r1 with st:=1}) K1 _ aB a1 tmps.size ⟨[],0,true⟩:=
      ⟨kg.ok,RG hs1.hB kg.below.size,hs1.fr.ext kg.ext,hs1.sz,hs1.df,hs1.st,Sb _⟩
     have st01:=Step.trans (new:=newer σ σ1) st1 (kg.mono (fun s hs=>by have h1:σ1.next<=s:=hs.1;have h2:s<σ1.next:=hs.2;omega))
     refine wpIn_mono (hw2 (some (K.lp l)) B0 K1 _ a1 tmps.size ⟨[],0,true⟩ wV hok2 (.inr hn2)) ?_
     rintro x a2 w2 ⟨hx2,K2,hs2,st2⟩
     obtain⟨Rn,hb2,Ro,JJ,JK,D2,BR,hf2,_⟩:=hs2.ok.loop l r2 hl2
     have sZ:K2.lp l=K.lp l:=((st2.ext.A l BQ).2.2.1).trans j6
     have gM:Step E B0 (newer σ σ2) σ K w σ2 K2 w2:=by
      refine(st01.mono ?_).trans (st2.mono ?_)
      ·intro s hs;exact⟨hs.1,RS hs.2 wS⟩
      ·intro s hs;exact⟨RG hle1 hs.1,hs.2⟩
     have fin:∀(r':fT) (b:Bool),r'.fr=r2.fr->r'.ps=r2.ps->r'.aK=r2.aK->r'.body=r2.body->σ'=σ2.bA l r'->v= .bool b->
      iA E B0 σ K w v σ' (.returned (.bool b)) (w2.putObj (K2.lp l) (.loop {({state:=fD r2.st,pending:=r2.pend.bind fJ,fn:=JJ,tmps:=JK,params:=r2.ps.toArray,assign:=r2.aK,body:=r2.body,defers:=D2}:Go.Loop) with state:=fD r'.st,pending:=r'.pend.bind fJ})):=by
      intro r' b h1 h2 h3 h4 h5 h6
      have JL:=Step.bA (new:=newer σ σ2) hs2.ok hs2.hB (r':=r') hl2 h1 h2 h3 h4 BR
      subst h5 h6
      have kZ:=gM.trans JL
      exact⟨K2,.bool b,kZ.ok,hs2.st,kZ⟩
     have hend:=fun jump=>run_endRound (P:=E.P) jump BR
     rw[sZ] at hend
     cases e2 with
     |normal=>
      cases x<;>simp only[dx] at hx2
      simp only[iE,iR] at hv
      refine⟨_,_,hend none,?_⟩
      have:=fin {r2 with st:=0,pend:=none} true rfl rfl rfl rfl hv.2.symm hv.1.symm
      rw[sZ] at this
      exact this
     |exit i=>
      cases x<;>simp only[dx] at hx2
      subst hx2
      simp only[iE,iR] at hv
      refine⟨_,_,hend (some (.exit i)),?_⟩
      have:=fin {r2 with st:=2,pend:=some (.exit i)} false rfl rfl rfl rfl hv.2.symm hv.1.symm
      rw[sZ] at this
      exact this
     |ret=>
      cases x<;>simp only[dx] at hx2
      simp only[iE,iR] at hv
      refine⟨_,_,hend (some .ret),?_⟩
      have:=fin {r2 with st:=2,pend:=some .ret} false rfl rfl rfl rfl hv.2.symm hv.1.symm
      rw[sZ] at this
      exact this
    ·simp at hv
   ·simp at hv
  |exit i=>simp at hv
  |ret=>simp at hv
 ·simp at hv
theorem JM (hS:jG E S.code) {l:Nat} {args:List V} {v:V} (hv:jh S l args σ=some (v,σ')):σ.next<=σ'.next:=by
 unfold jh at hv
 simp only[iP] at hv
 obtain⟨r,hl,hv⟩:=hv
 split at hv
 ·simp only[iP] at hv
  obtain⟨⟨e1,aB,σ1⟩,j5,hv⟩:=hv
  cases e1 with
  |normal=>
   simp only[iP] at hv
   obtain⟨r1,hl1,hv⟩:=hv
   split at hv
   ·simp only[iP] at hv
    obtain⟨⟨e2,aW,σ2⟩,hbody,r2,hl2,hv⟩:=hv
    split at hv
    ·have h1:=(hS _ _ _ _ _ _ j5).1
     have h2:σ1.next<=σ2.next:=(hS _ _ _ _ _ _ hbody).1
     have h3:σ'.next=σ2.next:=by
      cases e2<;>simp only[iE,iR] at hv<;>obtain⟨_,rfl⟩:=hv<;>rfl
     omega
    ·simp at hv
   ·simp at hv
  |exit i=>simp at hv
  |ret=>simp at hv
 ·simp at hv
end
end Aq
end
