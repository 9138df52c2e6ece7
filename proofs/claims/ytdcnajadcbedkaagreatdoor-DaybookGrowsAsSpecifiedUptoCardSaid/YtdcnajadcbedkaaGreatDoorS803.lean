/- Part of the proof of a law. -/
import Derived.RangeFuncLeaves
import Derived.RangeFuncRecord
import Derived.Test.YtdcnajadcbedkaaGreatDoorS802
set_option linter.all false
set_option linter.unusedSimpArgs false
set_option linter.unusedSectionVars false
section
namespace Aq
open Go Go.RowKit
section
variable {E:Env} {B0:Nat} {σ:ah} {K:aN} {w:World} {new:Nat→Prop} {T:Nat→Nat}
def pE (E:Env) (B0:Nat) (new:Nat→Prop) (σ:ah) (K:aN) (w:World) (s:Sem Next) (v:V) (σ':ah):Prop:=
 ∃nx c w' K',s.run E.P w= .ok nx w'∧(nx= .value c∨(nx= .skip∧c=undef))∧Rel K' σ'.top w' v c∧Step E B0 new σ K w σ' K' w'
theorem pE.pF {s:Sem Value} {v:V} {σ':ah} (h:Done E B0 new σ K w s v σ'):pE E B0 new σ K w (do pure (.value (←s))) v σ':=by
 obtain⟨c,w',K',h1,h2,h3⟩:=h
 exact⟨.value c,c,w',K',by simp[h1],.inl rfl,h2,h3⟩
theorem pE.dS (h:aS E B0 σ K w) {s:Sem Value} {v:V} (hs:∃c,s.run E.P w= .ok c w∧Rel K σ.top w v c):pE E B0 new σ K w (do pure (.value (←s))) v σ:=
 .pF (.dS h hs)
theorem pE.MZ {s:Sem Unit} {σ':ah} {K':aN} {w':World} (h:s.run E.P w= .ok () w') (hs:Step E B0 new σ K w σ' K' w'):pE E B0 new σ K w (do s;pure .skip) aC σ':=
 ⟨.skip,undef,w',K',by simp[h],.inr ⟨rfl,rfl⟩,.undef _ _ _,hs⟩
theorem yx {fr:Fr} {a:Act} (h:aS E B0 σ K w) (hf:jq K σ.top w fr a.tmps) (xs:Array Operand):
 (xs.toList.map (fr.ev E)).length=(xs.map a.eval).size∧∀i,i< (xs.toList.map (fr.ev E)).length→Rel K σ.top w ((xs.toList.map (fr.ev E)).getD i aC) ((xs.map a.eval).getD i undef):=by
 refine⟨by simp,fun i hi=> ?_⟩
 have hi':i<xs.size:=by simpa using hi
 have e1:(xs.toList.map (fr.ev E)).getD i aC=fr.ev E xs[i]:=by simp[List.getD,hi']
 have e2:(xs.map a.eval).getD i undef=a.eval xs[i]:=by simp[Array.getD,hi']
 rw[e1,e2]
 exact uz h hf _
theorem UA {v:V} {c:Value} {b:Bool} (hr:Rel K T w v c) (h:mg v=some b):c= .bool b:=by
 cases v<;>simp only[mg,reduceCtorEq,Option.some.injEq] at h
 subst h
 cases hr;rfl
theorem UC (h:aS E B0 σ K w) (hB:B0≤w.heap.size) {st:Nat} (hst:¬K.A st) (loc:Loc) (t:TypeId) {x:V} {cx:Value} (hx:Rel K σ.top w x cx) (hraw:dn x=true):
 Done E B0 (· =st) σ K w (do pure (.pointer (some (←newVar t cx)))) (.ref loc st 0) (σ.setObj loc st (.cells x.cells)):=by
 obtain⟨h1,h2⟩:=uD hx hraw
 have hstep:=Step.Gi h hB hst loc (.cells x.cells) (.cells cx.cells t) cx.cells.size (fun K' e' _ hb' hs'=>
  ⟨fun h0=>by rw[hs',←h1,h0];rfl,fun _=>⟨by rw[hb'];exact hB,_,t,by rw[hb'];exact heap_alloc_new w _,hs'.symm,by rw[h1];exact Nat.le_refl _,fun i hi=>(h2 i hi).ext e'⟩⟩)
 refine⟨.pointer (some (at_ w.heap.size 0)),_,_,by simp[newVar,newRow], ?_,hstep⟩
 have key:Rel (K.jr st w.heap.size cx.cells.size loc) (σ.setObj loc st (.cells x.cells)).top (w.alloc (.cells cx.cells t)) (.ref loc st 0) (.pointer (some (at_ ((K.jr st w.heap.size cx.cells.size loc).blk st) 0))):=.ref loc st 0 (Or.inr rfl)
 have hblk:(K.jr st w.heap.size cx.cells.size loc).blk st=w.heap.size:=upd_same _ _ _
 rw[hblk] at key
 exact key
theorem acH (h:aS E B0 σ K w) (hB:B0≤w.heap.size) {st:Nat} (t:TypeId) {x:V} {cx:Value} (hx:Rel K σ.top w x cx) (hraw:dn x=true):
 Done E B0 (· =st) σ K w (do pure (.pointer (some (←newVar t cx)))) (.aI x.cells 0) σ:=by
 obtain⟨h1,h2⟩:=uD hx hraw
 have hst:=Step.TH (new:=(· =st)) h hB cx.cells t (0,0)
 refine⟨.pointer (some (at_ w.heap.size 0)),_,_,by simp[newVar,newRow], ?_,hst⟩
 have hcell:∀j,j<cx.cells.size→(w.alloc (.cells cx.cells t)).cell? (at_ w.heap.size (0+j))=some (cx.cells.getD j undef):=fun j hj=>by
  rw[Nat.zero_add];exact BA hj
 exact .aI x.cells 0 w.heap.size 0 (fun j=>cx.cells.getD j undef) (fun j hj=>⟨hcell j (by omega),.inr ⟨rfl,by omega⟩⟩) (fun j hj=>(h2 j hj).ext hst.ext)
theorem acI (h:aS E B0 σ K w) (hB:B0≤w.heap.size) {st:Nat} (hst:¬K.A st) (loc:Loc) (t:TypeId):
 Done E B0 (· =st) σ K w (Instr.makeMap t none) (.bN loc st) (σ.setObj loc st (.map [] [])):=by
 have hstep:=Step.Gi h hB hst loc (.map [] []) (.map #[] 0) 0 (fun K' e' _ hb' hs'=>
  ⟨by rw[hb'];exact hB, #[],0,by rw[hb'];exact heap_alloc_new w _,rfl,rfl,fun i hi=>absurd hi (Nat.not_lt_zero i),fun i hi=>absurd hi (Nat.not_lt_zero i)⟩)
 refine⟨.map (some w.heap.size),_,_,by simp[Instr.makeMap], ?_,hstep⟩
 have key:Rel (K.jr st w.heap.size 0 loc) (σ.setObj loc st (.map [] [])).top (w.alloc (.map #[] 0)) (.bN loc st) (.map (some ((K.jr st w.heap.size 0 loc).blk st))):=.bN loc st (Or.inr rfl)
 have hblk:(K.jr st w.heap.size 0 loc).blk st=w.heap.size:=upd_same _ _ _
 rw[hblk] at key
 exact key
theorem acJ (h:aS E B0 σ K w) (hB:B0≤w.heap.size) {fr:Fr} {a:Act} (hf:jq K σ.top w fr a.tmps) {st:Nat} (hst:¬K.A st) {o:Oper} {v:V} {σ':ah} (hv:aX E fr σ st o=some (v,σ')):
 pE E B0 (· =st) σ K w (execOp a.eval o) v σ':=by
 have ev:=fun x=>uz h hf x
 unfold aX at hv
 unfold execOp
 split at hv
 ·rename_i x hop
  simp only[Option.some.injEq,Prod.mk.injEq] at hv
  obtain⟨rfl,rfl⟩:=hv
  simp only[hop]
  exact⟨.value (a.eval x),a.eval x,w,K,rfl,.inl rfl,ev x,.refl h⟩
 ·rename_i x hop
  simp only[Option.some.injEq,Prod.mk.injEq] at hv
  obtain⟨rfl,rfl⟩:=hv
  simp only[hop]
  exact⟨.value (a.eval x),a.eval x,w,K,rfl,.inl rfl,ev x,.refl h⟩
 ·rename_i c x y hop
  simp only[Option.map_eq_some_iff,Prod.mk.injEq] at hv
  obtain⟨b,hb,rfl,rfl⟩:=hv
  simp only[hop]
  have hc:=UA (ev c) hb
  refine⟨.value (if b then a.eval x else a.eval y),_,w,K,by simp[asBool,hc],.inl rfl, ?_,.refl h⟩
  cases b
  ·exact ev y
  ·exact ev x
 ·rename_i t hop
  simp only[Option.bind_eq_some_iff] at hv
  obtain⟨loc,_,z,hz,hv⟩:=hv
  split at hv
  ·simp only[Option.some.injEq,Prod.mk.injEq] at hv
   obtain⟨rfl,rfl⟩:=hv
   simp only[hop]
   obtain⟨cz,hz1,hz2⟩:=BD w hz
   obtain⟨c,w',K',r1,r2,r3⟩:=UC h hB hst loc t (hz2 K σ.top) (BF hz)
   refine .pF ⟨c,w',K', ?_,r2,r3⟩
   simp only[Instr.alloc,Sem.run_bind,hz1,Result.andThen_ok]
   exact r1
  ·simp at hv
 ·rename_i t x hop
  split at hv
  ·split at hv
   ·rename_i hc
    simp only[Option.some.injEq,Prod.mk.injEq] at hv
    obtain⟨rfl,rfl⟩:=hv
    simp only[hop]
    exact .pF (acH h hB t (ev x) hc.2)
   ·simp at hv
  simp only[Option.bind_eq_some_iff] at hv
  obtain⟨loc,_,hv⟩:=hv
  split at hv
  ·rename_i hc
   simp only[Option.some.injEq,Prod.mk.injEq] at hv
   obtain⟨rfl,rfl⟩:=hv
   simp only[hop]
   exact .pF (UC h hB hst loc t (ev x) hc.2)
  ·simp at hv
 ·rename_i t parts hop
  simp only[Option.bind_eq_some_iff,Option.map_eq_some_iff,Prod.mk.injEq] at hv
  obtain⟨pl,hpl,z,hz,cs,hcs,rfl,rfl⟩:=hv
  simp only[hop]
  refine .dS h (ab9 hpl hz ?_ (BF hz) hcs)
  rw[Array.toList_map]
  exact ML h hf _
 ·rename_i t len parts hop
  simp only[Option.map_eq_some_iff,Prod.mk.injEq] at hv
  obtain⟨v',hv',rfl,rfl⟩:=hv
  simp only[hop]
  refine .pF (ace h hB ?_ hv')
  rw[Array.toList_map]
  exact ML h hf _
 ·rename_i t x hop
  simp only[hop]
  have hx:=ev x
  generalize fr.ev E x=xv at hv hx
  cases xv with
  |ref loc s off=>
   simp only[Option.bind_eq_some_iff,Option.map_eq_some_iff,Prod.mk.injEq] at hv
   obtain⟨cs,h1,v',h2,rfl,rfl⟩:=hv
   exact .dS h (MH h hx (by simp[h1,h2]))
  |aI cs off=>
   simp only[Option.map_eq_some_iff,Prod.mk.injEq] at hv
   obtain⟨v',h2,rfl,rfl⟩:=hv
   exact .dS h (MH h hx h2)
  |_=>simp at hv
 ·rename_i t p x hop
  simp only[hop]
  have hp:=ev p
  have hx:=ev x
  generalize fr.ev E p=pv at hv hp
  cases pv with
  |ref loc s off=>
   simp only[Option.bind_eq_some_iff] at hv
   obtain⟨cs,hcs,hv⟩:=hv
   split at hv
   ·rename_i hc
    simp only[Option.some.injEq,Prod.mk.injEq] at hv
    obtain⟨rfl,rfl⟩:=hv
    obtain⟨w',r1,r2⟩:=ab3 (new:=(· =st)) h hB hp hx hcs hc.1 hc.2.1 hc.2.2
    exact .MZ r1 r2
   ·simp at hv
  |_=>simp at hv
 ·rename_i x hop
  simp only[hop]
  have hx:=ev x
  generalize fr.ev E x=xv at hv hx
  cases xv with
  |ref loc s off=>
   simp only[Option.some.injEq,Prod.mk.injEq] at hv
   obtain⟨rfl,rfl⟩:=hv
   generalize a.eval x=cx at hx
   cases hx with|ref _ _ _ hA=>exact⟨_,_,w,K,rfl,.inl rfl,.ref loc s off hA,.refl h⟩
  |aI cs off=>
   simp only[Option.some.injEq,Prod.mk.injEq] at hv
   obtain⟨rfl,rfl⟩:=hv
   generalize a.eval x=cx at hx
   have hx':=hx
   cases hx with|aI _ _ b o val h1 h2=>exact⟨_,_,w,K,rfl,.inl rfl,hx',.refl h⟩
  |fn f g l=>
   cases f with
   |func f=>
    simp only[Option.some.injEq,Prod.mk.injEq] at hv
    obtain⟨rfl,rfl⟩:=hv
    generalize a.eval x=cx at hx
    have hx':=hx
    cases hx with|fn _ _ _ av bv h1 h2 h3 h4=>exact⟨_,_,w,K,rfl,.inl rfl,hx',.refl h⟩
   |_=>simp at hv
  |_=>simp at hv
 ·rename_i op t x y _ hop
  simp only[Option.map_eq_some_iff,Prod.mk.injEq] at hv
  obtain⟨v',hv',rfl,rfl⟩:=hv
  simp only[hop]
  exact .dS h (abW w x y (ev x) (ev y) hv')
 ·rename_i op t x hop
  simp only[Option.map_eq_some_iff,Prod.mk.injEq] at hv
  obtain⟨v',hv',rfl,rfl⟩:=hv
  simp only[hop]
  exact .dS h (abX w (ev x) hv')
 ·rename_i s d x hop
  simp only[Option.map_eq_some_iff,Prod.mk.injEq] at hv
  obtain⟨v',hv',rfl,rfl⟩:=hv
  simp only[hop]
  exact .pF (ab0 h hB (ev x) hv')
 ·rename_i t x hop
  simp only[Option.bind_eq_some_iff] at hv
  obtain⟨⟨n,e⟩,hn,hv⟩:=hv
  have hu:=TQ hn
  simp only[hop]
  have hx:=ev x
  generalize fr.ev E x=xv at hv hx
  generalize a.eval x=cx at hx
  cases xv with
  |vw loc s off len cap aU ag=>
   simp only at hv
   split at hv
   ·rename_i hle
    simp only[Option.some.injEq,Prod.mk.injEq] at hv
    obtain⟨rfl,rfl⟩:=hv
    cases hx with
    |jT=>omega
    |vw _ _ _ _ _ _ _ cB hA hcc hlc hsz=>
     have:¬(len<n):=by omega
     exact .dS h ⟨_,by simp[Instr.arrayAt,run_underlying hu,this],.ref loc s off hA⟩
   ·simp at hv
  |aj c l=>
   simp only at hv
   split at hv
   ·rename_i hc
    obtain⟨c1,c2,c3⟩:=hc
    simp only[Option.some.injEq,Prod.mk.injEq] at hv
    obtain⟨rfl,rfl⟩:=hv
    cases hx with
    |dF=>simp at c2;omega
    |aj _ _ b o m cap val hle hn hcell hrel hcap=>
     have hlt:¬(l.length<n):=by omega
     have hone:∀i,i<l.length→(l.getD i aC).cells=[l.getD i aC]:=fun i hi=>by
      simp only[bf,List.all_eq_true] at c3
      have:=c3 _ (List.getElem_mem hi)
      rw[iq hi]
      revert this
      cases l[i]<;>simp[oneCell,V.cells]
     have hm:m=1:=by
      have h0:0<l.length:=by omega
      rw[←hn 0 h0,hone 0 h0];rfl
     subst hm
     refine .dS h ⟨.pointer (some (at_ b (o+0))),by simp[Instr.arrayAt,run_underlying hu,hlt],.aI l 0 b o (fun j=>val j 0) (fun j hj=> ?_) (fun j hj=> ?_)⟩
     ·have:=hcell j 0 hj (by omega)
      simpa using this
     ·have:=hrel j 0 hj (by omega)
      rw[hone j hj] at this
      simpa using this
   ·simp at hv
  |_=>simp at hv
 ·rename_i t x hop
  simp only[hop]
  split at hv
  ·simp at hv
  ·rename_i d hu hd
   simp only[Option.some.injEq,Prod.mk.injEq] at hv
   obtain⟨rfl,rfl⟩:=hv
   refine .dS h ⟨.iface t (a.eval x), ?_,.iface t _ _ (ev x)⟩
   simp only[Instr.makeInterface,Sem.run_bind,run_underlying hd,Result.andThen_ok]
   rfl
  ·simp at hv
 ·rename_i f p q hop
  simp only[Option.some.injEq,Prod.mk.injEq] at hv
  obtain⟨rfl,rfl⟩:=hv
  simp only[hop]
  obtain⟨h1,h2⟩:=yx h hf p
  obtain⟨h3,h4⟩:=yx h hf q
  exact .dS h ⟨_,rfl,.fn f _ _ _ _ h1 h3 h2 h4⟩
 ·rename_i t hop
  simp only[Option.map_eq_some_iff,Prod.mk.injEq] at hv
  obtain⟨loc,_,rfl,rfl⟩:=hv
  simp only[hop]
  exact .pF (acI h hB hst loc t)
 ·rename_i t l c hop
  simp only[hop]
  exact .pF (acA h hB hst (ev l) (ev c) hv)
 ·rename_i t x lo hi mx hop
  simp only[Option.map_eq_some_iff,Prod.mk.injEq] at hv
  obtain⟨v',hv',rfl,rfl⟩:=hv
  simp only[hop]
  have opt:∀(p:Option Operand) v,fQ E fr p=some v→∃c,p.map a.eval=some c∧Rel K σ.top w v c:=by
   intro p v hp
   cases p with
   |none=>simp[fQ] at hp
   |some p=>
    simp only[fQ,Option.some.injEq] at hp;subst hp
    exact⟨_,rfl,ev p⟩
  have M0:∀(p:Option Operand),fQ E fr p=none→p.map a.eval=none:=by
   intro p hp
   cases p with
   |none=>rfl
   |some p=>simp[fQ] at hp
  exact .dS h (abY w rfl h (ev x) (opt lo) (M0 lo) (opt hi) (M0 hi) (opt mx) (M0 mx) hv')
 ·rename_i t x f hop
  simp only[Option.bind_eq_some_iff] at hv
  obtain⟨⟨o',u⟩,hfi,hv⟩:=hv
  simp only[hop]
  have hx:=ev x
  generalize fr.ev E x=xv at hv hx
  cases xv with
  |ref loc s off=>
   simp only[Option.some.injEq,Prod.mk.injEq] at hv
   obtain⟨rfl,rfl⟩:=hv
   exact .dS h (T9 hx hfi rfl)
  |aI cs off=>
   simp only[Option.some.injEq,Prod.mk.injEq] at hv
   obtain⟨rfl,rfl⟩:=hv
   exact .dS h (T9 hx hfi rfl)
  |_=>simp at hv
 ·rename_i t x f hop
  simp only[Option.bind_eq_some_iff] at hv
  obtain⟨⟨o',u⟩,hfi,hv⟩:=hv
  simp only[hop]
  have hx:=ev x
  generalize fr.ev E x=xv at hv hx
  generalize a.eval x=cx at hx
  cases xv with
  |agg cs=>
   simp only[Option.map_eq_some_iff,Prod.mk.injEq] at hv
   obtain⟨v',hv',rfl,rfl⟩:=hv
   cases hx with|agg _ vs hl hr=>
   obtain⟨fs,g,n,hu,hg,rfl,rfl,hn⟩:=TS hfi
   obtain⟨c,r1,r2⟩:=xZ (P:=E.P) (w:=w) hl hr hv'
   exact .dS h ⟨c,by simp[Instr.field,run_underlying hu,hg,asAgg,r1],r2⟩
  |_=>simp at hv
 ·rename_i t x i hop
  simp only[Option.map_eq_some_iff,Prod.mk.injEq] at hv
  obtain⟨v',hv',rfl,rfl⟩:=hv
  simp only[hop]
  exact .dS h (ab1 (ev x) (ev i) hv')
 ·rename_i t x i hop
  simp only[Option.map_eq_some_iff,Prod.mk.injEq] at hv
  obtain⟨v',hv',rfl,rfl⟩:=hv
  simp only[hop]
  exact .dS h (ab2 (ev x) (ev i) hv')
 ·rename_i t x i ok hop
  simp only[Option.map_eq_some_iff,Prod.mk.injEq] at hv
  obtain⟨v',hv',rfl,rfl⟩:=hv
  simp only[hop]
  exact .dS h (ab6 h (ev x) (ev i) hv')
 ·rename_i t m k x hop
  simp only[Option.map_eq_some_iff,Prod.mk.injEq] at hv
  obtain⟨σ1,hv',rfl,rfl⟩:=hv
  simp only[hop]
  obtain⟨w',r1,r2,_⟩:=Ue (new:=(· =st)) h hB (ev m) (ev k) (ev x) hv'
  exact .MZ r1 r2
 ·rename_i t m k x hop
  simp only[Option.map_eq_some_iff,Prod.mk.injEq] at hv
  obtain⟨σ1,hv',rfl,rfl⟩:=hv
  simp only[hop]
  obtain⟨w',r1,r2,_⟩:=Ue (new:=(· =st)) h hB (ev m) (ev k) (ev x) hv'
  exact .MZ r1 r2
 ·rename_i x i hop
  simp only[hop]
  have hx:=ev x
  generalize fr.ev E x=xv at hv hx
  generalize a.eval x=cx at hx
  cases xv with
  |bA vs=>
   simp only[Option.map_eq_some_iff,Prod.mk.injEq] at hv
   obtain⟨v',hv',rfl,rfl⟩:=hv
   cases hx with|bA _ UD hl hr=>
   have hi:i<vs.length:=(List.getElem?_eq_some_iff.1 hv').1
   have hi':i<UD.size:=by omega
   refine .dS h ⟨UD[i],by simp[Instr.extract,hi'], ?_⟩
   have:=hr i hi
   rw[iq hi,xY hi'] at this
   have e:vs[i]=v':=(List.getElem?_eq_some_iff.1 hv').2
   rw[←e];exact this
  |_=>simp at hv
 ·simp at hv
end
end Aq
end
section
namespace Aq
open Go Go.RowKit
section
variable {E:Env} {B0:Nat} {σ:ah} {K:aN} {w:World} {new:Nat→Prop} {T:Nat→Nat}
def RelA (K:aN) (T:Nat→Nat) (w:World) (l:List V) (cl:Array Value):Prop:=l.length=cl.size∧∀i,i<l.length→Rel K T w (l.getD i aC) (cl.getD i undef)
theorem UE {x:V} {cl:Array Value} (h:RelA K T w [x] cl):∃c,cl= #[c]∧Rel K T w x c:=by
 obtain⟨h1,h2⟩:=h
 have hs:cl.size=1:=by simpa using h1.symm
 refine⟨cl[0], ?_, ?_⟩
 ·apply Array.ext
  ·simpa using hs
  ·intro i h1 h2
   obtain rfl:i=0:=by omega
   rfl
 ·have:=h2 0 (by simp)
  rwa[xY (by omega)] at this
theorem UF {x y:V} {cl:Array Value} (h:RelA K T w [x,y] cl):∃c d,cl= #[c,d]∧Rel K T w x c∧Rel K T w y d:=by
 obtain⟨h1,h2⟩:=h
 have hs:cl.size=2:=by simpa using h1.symm
 refine⟨cl[0],cl[1], ?_, ?_, ?_⟩
 ·apply Array.ext
  ·simpa using hs
  ·intro i h1 h2
   have:i=0∨i=1:=by omega
   rcases this with rfl|rfl<;>rfl
 ·have:=h2 0 (by simp)
  rwa[xY (by omega)] at this
 ·have:=h2 1 (by simp)
  rwa[xY (by omega)] at this
theorem UG {x:V} {l:List V} {cl:Array Value} (h:RelA K T w (x::l) cl):∃c cs,cl.toList=c::cs∧Rel K T w x c∧l.length=cs.length∧∀i,i<l.length→Rel K T w (l.getD i aC) (cs.getD i undef):=by
 obtain⟨h1,h2⟩:=h
 cases hc:cl.toList with
 |nil=>
  have:cl.size=0:=by rw[←Array.length_toList,hc];rfl
  simp[this] at h1
 |cons c cs=>
  have hg:∀i,cl.getD i undef=(c::cs).getD i undef:=fun i=>by rw[←hc,Gq]
  have hl:cl.size=cs.length+1:=by rw[←Array.length_toList,hc];rfl
  refine⟨c,cs,rfl, ?_,by simp at h1;omega,fun i hi=> ?_⟩
  ·have:=h2 0 (by simp)
   rw[hg] at this
   simpa using this
  ·have:=h2 (i+1) (by simp;omega)
   rw[hg] at this
   simpa using this
theorem acK (h:aS E B0 σ K w) (hB:B0≤w.heap.size) {om:Bool} {loc:Option Loc} {st:Nat} (hst:¬K.A st) {b:Builtin} {tys:Array TypeId} {ty:TypeId} {consts:Array Bool} {args:List V} {cu:Array Value} {v:V} {σ':ah}
 (hr:RelA K σ.top w args cu) (hv:lQ E om loc σ st b tys args=some (v,σ')):pE E B0 (· =st) σ K w (builtin b tys ty consts cu) v σ':=by
 unfold lQ at hv
 split at hv
 ·rename_i x
  simp only[Option.bind_eq_some_iff,Option.map_eq_some_iff,Prod.mk.injEq] at hv
  obtain⟨t,ht,n,hn,rfl,rfl⟩:=hv
  obtain⟨c,rfl,hx⟩:=UE hr
  exact .dS h ⟨_,acF h ht hx hn,.int .i64 n⟩
 ·rename_i x
  simp only[Option.bind_eq_some_iff] at hv
  obtain⟨t,ht,e,he,hv⟩:=hv
  obtain⟨c,rfl,hx⟩:=UE hr
  obtain⟨rfl,r⟩:=acG (ty:=ty) ht (BG he) hv hx
  exact .dS h r
 ·rename_i x y
  simp only[Option.bind_eq_some_iff] at hv
  obtain⟨t,ht,u,⟨tx,htx,hu⟩,hv⟩:=hv
  obtain⟨c,d,rfl,hx,hy⟩:=UF hr
  have he:Builtin.append_ tys ty #[c,d]=Builtin.append_ #[t,tx] ty #[c,d]:=by simp[Builtin.append_,ht,htx]
  show pE E B0 _ σ K w (do pure (.value (←Builtin.append_ tys ty #[c,d]))) v σ'
  rw[he]
  split at hv
  ·rename_i k
   exact .pF (MX h hB hst hx hy (fun _=>⟨k,hu⟩) (fun hf=>by cases hf) hv)
  ·rename_i e
   exact .pF (MX h hB hst hx hy (fun hf=>by cases hf) (fun _=>.inl ⟨e,hu⟩) hv)
  ·exact .pF (MX h hB hst hx hy (fun hf=>by cases hf) (fun _=>.inr hu) hv)
  ·simp at hv
 ·rename_i x y
  simp only[Option.bind_eq_some_iff] at hv
  obtain⟨t,ht,hv⟩:=hv
  obtain⟨c,d,rfl,hx,hy⟩:=UF hr
  have he:Builtin.copy_ tys ty #[c,d]=Builtin.copy_ #[t,t] ty #[c,d]:=by simp[Builtin.copy_,ht]
  show pE E B0 _ σ K w (do pure (.value (←Builtin.copy_ tys ty #[c,d]))) v σ'
  rw[he]
  exact .pF (acE h hB hx hy hv)
 ·rename_i x l
  simp only[Option.map_eq_some_iff,Prod.mk.injEq] at hv
  obtain⟨v',hv',rfl,rfl⟩:=hv
  obtain⟨c,cs,hc,hx,hl,hrel⟩:=UG hr
  obtain⟨c',r1,r2⟩:=Uy l cs x v' c hl hrel hx hv'
  have he:Builtin.min_ tys ty cu=cs.foldlM Builtin.min2 c:=by unfold Builtin.min_;rw[hc]
  exact .dS (s:=Builtin.min_ tys ty cu) h ⟨c',by rw[he];exact r1,r2⟩
 ·rename_i x l
  simp only[Option.map_eq_some_iff,Prod.mk.injEq] at hv
  obtain⟨v',hv',rfl,rfl⟩:=hv
  obtain⟨c,cs,hc,hx,hl,hrel⟩:=UG hr
  obtain⟨c',r1,r2⟩:=Uz l cs x v' c hl hrel hx hv'
  have he:Builtin.max_ tys ty cu=cs.foldlM Builtin.max2 c:=by unfold Builtin.max_;rw[hc]
  exact .dS (s:=Builtin.max_ tys ty cu) h ⟨c',by rw[he];exact r1,r2⟩
 ·simp at hv
end
end Aq
end
section
namespace Aq
open Go Go.RowKit
def FW (ro:Option Nat):Fence:={Fence.wide with round:=ro}
structure yA where
 l:List Deferred
 B:Nat
 nm:Bool
def mark (b:Nat):Deferred:=⟨.collected b, #[]⟩
structure St (E:Env) (B0:Nat) (σ:ah) (K:aN) (w:World) (fr:Fr) (a:Act) (n:Nat) (ds:yA):Prop where
 ok:aS E B0 σ K w
 hB:B0≤w.heap.size
 fr:jq K σ.top w fr a.tmps
 sz:a.tmps.size=n
 df:∃bs:List Nat,a.defers=bs.map mark++ds.l∧bs.Nodup∧(∀b∈bs,K.D b∧ds.B≤b)∧(ds.nm=true→bs=[])
 st:∀s,K.A s→s<σ.next
 hD:ds.B≤w.heap.size
def nE:Ex→Exit→Prop
 |.normal,.normal=>True
 |.exit i,.exit j=>i=j
 |.ret,.ret=>True
 |_,_=>False
def newer (σ σ':ah) (s:Nat):Prop:=σ.next≤s∧s<σ'.next
def wu (E:Env) (B0 n:Nat) (ds:yA) (σ:ah) (K:aN) (w:World) (e:Ex) (fr':Fr) (σ':ah):Exit→Act→World→Prop:=
 fun x a' w'=>nE e x∧∃K',St E B0 σ' K' w' fr' a' n ds∧Step E B0 (newer σ σ') σ K w σ' K' w'
def Gy (E:Env) (code:Code→Fr→ah→Option (Ex×Fr×ah)):Prop:=
 ∀c fr σ e fr' σ',code c fr σ=some (e,fr',σ')→σ.next≤σ'.next∧∀ro B0 K w a n ds,St E B0 σ K w fr a n ds→iF n c=true→(ro=none∧ds.nm=false∨kL c=true)→c.wpIn (FW ro) 0 E.P (wu E B0 n ds σ K w e fr' σ') a w
def uI (E:Env) (B0:Nat) (σ:ah) (K:aN) (w:World) (v:V) (σ':ah):Ending→World→Prop
 |.returned c,w'=> ∃K',Rel K' σ'.top w' v c∧aS E B0 σ' K' w'∧(∀s,K'.A s→s<σ'.next)∧Step E B0 (newer σ σ') σ K w σ' K' w'
 |_,_=>False
def uJ (E:Env) (f:FuncId):Prop:=∃fn c,E.P.funcs[f]? =some fn∧fn.body=some c
def BO (E:Env) (call:FuncId→List V→Nat→ah→Option (V×ah)):Prop:=
 ∀f args d σ v σ',call f args d σ=some (v,σ')→σ.next≤σ'.next∧uJ E f∧∀ro B0 K w cu,aS E B0 σ K w→B0≤w.heap.size→(∀s,K.A s→s<σ.next)→RelA K σ.top w args cu→
  CallsIn (FW ro) 0 E.P f cu w (uI E B0 σ K w v σ')
structure Sound (E:Env) (S:iK):Prop where
 code:Gy E S.code
 call:BO E S.call
theorem Step.widen {E:Env} {B0:Nat} {σ σ1 σ2:ah} {K K1 K2:aN} {w w1 w2:World} (h:Step E B0 (newer σ σ1) σ K w σ1 K1 w1) (g:Step E B0 (newer σ1 σ2) σ1 K1 w1 σ2 K2 w2)
 (h1:σ.next≤σ1.next) (h2:σ1.next≤σ2.next):Step E B0 (newer σ σ2) σ K w σ2 K2 w2:=
 (h.mono (fun _ hs=>⟨hs.1,Nat.lt_of_lt_of_le hs.2 h2⟩)).trans (g.mono (fun _ hs=>⟨Nat.le_trans h1 hs.1,hs.2⟩))
end Aq
end
section
namespace Aq
open Go Go.RowKit
section
variable {E:Env} {B0:Nat} {σ:ah} {K:aN} {w:World} {fr:Fr} {a:Act} {n:Nat} {ds:yA}
def mD (E:Env) (c:Code) (fr:Fr) (σ:ah) (e:Ex) (fr':Fr) (σ':ah):Prop:=
 σ.next≤σ'.next∧∀ro B0 K w a n ds,St E B0 σ K w fr a n ds→iF n c=true→(ro=none∧ds.nm=false∨kL c=true)→c.wpIn (FW ro) 0 E.P (wu E B0 n ds σ K w e fr' σ') a w
theorem acL:mD E .skip fr σ .normal fr σ:=
 ⟨Nat.le_refl _,fun _ _ K _ _ _ _ h _ _=>wpIn_skip ⟨trivial,K,h,.refl h.ok⟩⟩
theorem acM (id:Nat):mD E (.exit id) fr σ (.exit id) fr σ:=
 ⟨Nat.le_refl _,fun _ _ K _ _ _ _ h _ _=>wpIn_exit ⟨rfl,K,h,.refl h.ok⟩⟩
theorem acN:mD E .ret fr σ .ret fr σ:=
 ⟨Nat.le_refl _,fun _ _ K _ _ _ _ h _ _=>wpIn_ret ⟨trivial,K,h,.refl h.ok⟩⟩
theorem wu.widen {σ1 σ2:ah} {K1:aN} {w1:World} {e:Ex} {fr':Fr} (h:Step E B0 (newer σ σ1) σ K w σ1 K1 w1) (h1:σ.next≤σ1.next) (h2:σ1.next≤σ2.next):
 ∀x a' w',wu E B0 n ds σ1 K1 w1 e fr' σ2 x a' w'→wu E B0 n ds σ K w e fr' σ2 x a' w':=by
 rintro x a' w' ⟨g1,K2,g2,g3⟩
 exact⟨g1,K2,g2,h.widen g3 h1 h2⟩
theorem acO {c d:Code} {e:Ex} {bQ d9:Fr} {σ1 σ2:ah} (h:mD E c fr σ .normal bQ σ1) (g:mD E d bQ σ1 e d9 σ2):mD E (.seq c d) fr σ e d9 σ2:=by
 refine⟨Nat.le_trans h.1 g.1,fun ro B0 K w a n ds hs hok hnr=> ?_⟩
 simp only[iF,Bool.and_eq_true] at hok
 simp only[kL,Bool.and_eq_true] at hnr
 refine wpIn_seq (wpIn_mono (h.2 ro B0 K w a n ds hs hok.1 (hnr.imp id And.left)) ?_)
 rintro x a1 w1 ⟨hx,K1,s1,st1⟩
 cases x<;>simp only[nE] at hx
 exact wpIn_mono (g.2 ro B0 K1 w1 a1 n ds s1 hok.2 (hnr.imp id And.right)) (wu.widen st1 h.1 g.1)
theorem UH {c d:Code} {e:Ex} {bQ:Fr} {σ1:ah} (he:e≠ .normal) (h:mD E c fr σ e bQ σ1):mD E (.seq c d) fr σ e bQ σ1:=by
 refine⟨h.1,fun ro B0 K w a n ds hs hok hnr=> ?_⟩
 simp only[iF,Bool.and_eq_true] at hok
 simp only[kL,Bool.and_eq_true] at hnr
 refine wpIn_seq (wpIn_mono (h.2 ro B0 K w a n ds hs hok.1 (hnr.imp id And.left)) ?_)
 rintro x a1 w1 ⟨hx,K1,s1,st1⟩
 cases e<;>cases x<;>simp only[nE] at hx
 ·exact absurd rfl he
 ·exact⟨hx,K1,s1,st1⟩
 ·exact⟨hx,K1,s1,st1⟩
theorem acP {c:Operand} {x y:Code} {t:Bool} {e:Ex} {bQ:Fr} {σ1:ah} (hc:mg (fr.ev E c)=some t) (h:mD E (if t then x else y) fr σ e bQ σ1):mD E (.cond c x y) fr σ e bQ σ1:=by
 refine⟨h.1,fun ro B0 K w a n ds hs hok hnr=> ?_⟩
 simp only[iF,Bool.and_eq_true] at hok
 simp only[kL,Bool.and_eq_true] at hnr
 refine wpIn_cond (UA (uz hs.ok hs.fr c) hc) (h.2 ro B0 K w a n ds hs ?_ ?_)
 ·cases t
  ·exact hok.2
  ·exact hok.1
 ·cases t
  ·exact hnr.imp id And.right
  ·exact hnr.imp id And.left
def M4 (id:Nat):Ex→Ex
 |.exit i=>if i=id then .normal else .exit i
 |e=>e
theorem acQ {id:Nat} {c:Code} {e:Ex} {bQ:Fr} {σ1:ah} (h:mD E c fr σ e bQ σ1):mD E (.block id c) fr σ (M4 id e) bQ σ1:=by
 refine⟨h.1,fun ro B0 K w a n ds hs hok hnr=>wpIn_block (wpIn_mono (h.2 ro B0 K w a n ds hs hok hnr) ?_)⟩
 rintro x a1 w1 ⟨hx,K1,s1,st1⟩
 cases e with
 |normal=>cases x<;>simp only[nE] at hx;exact⟨trivial,K1,s1,st1⟩
 |ret=>cases x<;>simp only[nE] at hx;exact⟨trivial,K1,s1,st1⟩
 |exit i=>
  cases x<;>simp only[nE] at hx
  subst hx
  simp only[Exit.inBlock,M4]
  split
  ·exact⟨trivial,K1,s1,st1⟩
  ·exact⟨rfl,K1,s1,st1⟩
end
end Aq
end
section
namespace Aq
open Go Go.RowKit
section
variable {E:Env} {B0:Nat} {σ σ':ah} {K K':aN} {w w':World} {fr:Fr} {a:Act} {n:Nat} {ds:yA}
theorem jq.put {T:Nat→Nat} (h:jq K T w fr a.tmps) {d:Option Nat} {v:V} {c:Value} (hr:Rel K T w v c) (hd:∀i,d=some i→i<a.tmps.size):jq K T w (fr.put d v) (a.put d c).tmps:=by
 cases d with
 |none=>exact h
 |some i=>
  have hi:=hd i rfl
  intro t
  show Rel K T w (upd fr.tm i v t) ((a.tmps.setIfInBounds i c).getD t undef)
  by_cases ht:t=i
  ·subst ht
   rw[upd_same]
   have:(a.tmps.setIfInBounds t c).getD t undef=c:=by simp[Array.getD,hi]
   rw[this];exact hr
  ·rw[upd_ne _ _ ht]
   have:(a.tmps.setIfInBounds i c).getD t undef=a.tmps.getD t undef:=by
    simp only[Array.getD,Array.size_setIfInBounds]
    split
    ·rename_i hlt
     show (a.tmps.setIfInBounds i c)[t]'(by simpa using hlt)=a.tmps[t]
     rw[Array.getElem_setIfInBounds_ne hlt (Ne.symm ht)]
    ·rfl
   rw[this];exact h t
theorem acR (a:Act) (d:Option Nat) (c:Value):(a.put d c).tmps.size=a.tmps.size:=by cases d<;>simp[Act.put]
theorem put_defers (a:Act) (d:Option Nat) (c:Value):(a.put d c).defers=a.defers:=by cases d<;>rfl
theorem St.put (h:St E B0 σ K w fr a n ds) {new:Nat→Prop} {d:Option Nat} {v:V} {c:Value} (hs:Step E B0 new σ K w σ' K' w') (hr:Rel K' σ'.top w' v c) (hd:∀i,d=some i→i<n) (hst:∀s,K'.A s→s<σ'.next):
 St E B0 σ' K' w' (fr.put d v) (a.put d c) n ds:=
 ⟨hs.ok,Nat.le_trans h.hB hs.below.size,jq.put (h.fr.ext hs.ext) hr (fun i hi=>by rw[h.sz];exact hd i hi),by rw[acR];exact h.sz,by obtain⟨bs,h1,h2,h3,h4⟩:=h.df;exact⟨bs,by rw[put_defers];exact h1,h2,fun b hb=>⟨hs.D b (h3 b hb).1,(h3 b hb).2⟩,h4⟩,hst,Nat.le_trans h.hD hs.below.size⟩
theorem Gz {o:Oper} (ro:Option Nat) (ρ:Operand→Value) (h:∀c,o.op≠ .defer c):o.semAt ro ρ=execOp ρ o:=by
 unfold Oper.semAt
 split
 ·rename_i c hc
  exact absurd hc (h c)
 ·rfl
theorem acS {o:Oper} {ro:Option Nat} {new:Nat→Prop} {v:V} {next:Act→World→Prop} {Q:Exit→Act→World→Prop} (ho:∀c,o.op≠ .defer c) (hd:pE E B0 new σ K w (execOp a.eval o) v σ')
 (hn:∀c w' K',Rel K' σ'.top w' v c→Step E B0 new σ K w σ' K' w'→next (a.put o.dst c) w'):o.wpIn (FW ro) 0 E.P a w next Q:=by
 refine⟨fun f _=>trivial, ?_⟩
 obtain⟨nx,c,w',K',h1,h2,h3,h4⟩:=hd
 rw[Gz _ _ ho,h1]
 rcases h2 with rfl| ⟨rfl,rfl⟩
 ·exact hn c w' K' h3 h4
 ·exact hn undef w' K' h3 h4
end
end Aq
end
section
namespace Aq
open Go Go.RowKit
def qz (σ σ':ah):Prop:=σ'.next=σ.next∧σ'.loops=σ.loops
theorem qz.refl (σ:ah):qz σ σ:=⟨rfl,rfl⟩
section
variable {E:Env} {σ σ':ah} {fr:Fr}
theorem acT {t:TypeId} {m k v:V} (h:nY E.P σ t m k v=some σ'):qz σ σ':=by
 simp only[nY,Option.bind_eq_some_iff] at h
 obtain⟨⟨kt,et⟩,_,h⟩:=h
 split at h
 ·cases m<;>simp only[reduceCtorEq] at h
  simp only[Option.bind_eq_some_iff,Option.map_eq_some_iff] at h
  obtain⟨_,_,_,_,rfl⟩:=h
  exact⟨rfl,rfl⟩
 ·simp at h
theorem acU {om:Bool} {st:Nat} {loc:Option Loc} {t:TypeId} {l c v:V} (h:ql E.P om σ st loc t l c=some (v,σ')):qz σ σ':=by
 simp only[ql,Option.bind_eq_some_iff] at h
 obtain⟨_,_,_,_,_,_,_,_,_,_,_,_,h⟩:=h
 split at h
 ·split at h
  ·simp only[Option.some.injEq,Prod.mk.injEq] at h
   obtain⟨_,rfl⟩:=h
   exact⟨rfl,rfl⟩
  ·simp only[Option.bind_eq_some_iff,Option.map_eq_some_iff,Prod.mk.injEq] at h
   obtain⟨_,_,_,_,_,rfl⟩:=h
   exact⟨rfl,rfl⟩
 ·simp at h
theorem acV {t:TypeId} {x y v:V} (h:copyV E.P σ t x y=some (v,σ')):qz σ σ':=by
 simp only[copyV,Option.bind_eq_some_iff] at h
 obtain⟨_,_,_,_,_,_,h⟩:=h
 split at h
 ·simp only[Option.bind_eq_some_iff] at h
  obtain⟨_,_,h⟩:=h
  split at h
  ·split at h
   ·simp only[Option.bind_eq_some_iff] at h
    obtain⟨_,_,h⟩:=h
    split at h
    ·simp only[Option.some.injEq,Prod.mk.injEq] at h
     obtain⟨_,rfl⟩:=h
     exact⟨rfl,rfl⟩
    ·simp at h
   ·simp only[Option.some.injEq,Prod.mk.injEq] at h
    obtain⟨_,rfl⟩:=h
    exact⟨rfl,rfl⟩
   ·simp at h
  ·simp at h
 ·simp at h
theorem M5 {om zeros:Bool} {st:Nat} {loc:Option Loc} {t:TypeId} {x y v:V} (h:gy E.P om zeros σ st loc t x y=some (v,σ')):qz σ σ':=by
 simp only[gy,Option.bind_eq_some_iff] at h
 obtain⟨_,_,_,_,_,_,_,_,_,_,h⟩:=h
 split at h
 ·simp only[Option.bind_eq_some_iff] at h
  obtain⟨_,_,h⟩:=h
  split at h
  ·split at h
   ·split at h
    ·split at h
     all_goals first
      | (simp only[Option.map_eq_some_iff,Prod.mk.injEq] at h;obtain⟨_,_,_,rfl⟩:=h;exact⟨rfl,rfl⟩)
      | (simp only[Option.some.injEq,Prod.mk.injEq] at h;obtain⟨_,rfl⟩:=h;exact⟨rfl,rfl⟩)
      | (split at h
         ·simp at h
         ·simp only[Option.map_eq_some_iff,Prod.mk.injEq] at h;obtain⟨_,_,_,rfl⟩:=h;exact⟨rfl,rfl⟩)
      | (split at h
         ·simp only[Option.some.injEq,Prod.mk.injEq] at h;obtain⟨_,rfl⟩:=h;exact⟨rfl,rfl⟩
         ·simp only[Option.map_eq_some_iff,Prod.mk.injEq] at h;obtain⟨_,_,_,rfl⟩:=h;exact⟨rfl,rfl⟩)
      | (split at h
         ·simp only[Option.some.injEq,Prod.mk.injEq] at h;obtain⟨_,rfl⟩:=h;exact⟨rfl,rfl⟩
         ·simp at h)
      |simp at h
    ·simp at h
   ·split at h
    ·simp only[Option.bind_eq_some_iff] at h
     obtain⟨_,_,_,_,h⟩:=h
     split at h
     ·split at h
      ·simp only[Option.some.injEq,Prod.mk.injEq] at h;obtain⟨_,rfl⟩:=h;exact⟨rfl,rfl⟩
      ·simp at h
     ·split at h
      ·simp only[Option.some.injEq,Prod.mk.injEq] at h;obtain⟨_,rfl⟩:=h;exact⟨rfl,rfl⟩
      ·simp at h
    ·simp at h
   ·simp at h
  ·simp at h
 ·simp at h
theorem UJ {om:Bool} {st:Nat} {loc:Option Loc} {b:Builtin} {tys:Array TypeId} {args:List V} {v:V} (h:lQ E om loc σ st b tys args=some (v,σ')):qz σ σ':=by
 unfold lQ at h
 split at h
 ·simp only[Option.bind_eq_some_iff,Option.map_eq_some_iff,Prod.mk.injEq] at h
  obtain⟨_,_,_,_,_,rfl⟩:=h;exact .refl _
 ·simp only[Option.bind_eq_some_iff] at h
  obtain⟨_,_,_,_,h⟩:=h
  split at h
  ·simp only[Option.some.injEq,Prod.mk.injEq] at h;obtain⟨_,rfl⟩:=h;exact .refl _
  ·simp only[Option.some.injEq,Prod.mk.injEq] at h;obtain⟨_,rfl⟩:=h;exact .refl _
  ·simp at h
 ·simp only[Option.bind_eq_some_iff] at h
  obtain⟨_,_,_,_,h⟩:=h
  split at h
  ·exact M5 h
  ·exact M5 h
  ·exact M5 h
  ·simp at h
 ·simp only[Option.bind_eq_some_iff] at h
  obtain⟨_,_,h⟩:=h
  exact acV h
 ·simp only[Option.map_eq_some_iff,Prod.mk.injEq] at h
  obtain⟨_,_,_,rfl⟩:=h;exact .refl _
 ·simp only[Option.map_eq_some_iff,Prod.mk.injEq] at h
  obtain⟨_,_,_,rfl⟩:=h;exact .refl _
 ·simp at h
theorem UK {st:Nat} {o:Oper} {v:V} (h:aX E fr σ st o=some (v,σ')):qz σ σ':=by
 unfold aX at h
 split at h
 all_goals first
  |exact acU h
  | (simp only[Option.some.injEq,Prod.mk.injEq] at h;obtain⟨_,rfl⟩:=h;exact .refl _)
  | (simp only[Option.map_eq_some_iff,Prod.mk.injEq] at h;obtain⟨_,_,_,rfl⟩:=h;exact⟨rfl,rfl⟩)
  | (simp only[Option.map_eq_some_iff,Prod.mk.injEq] at h;obtain⟨_,h1,_,rfl⟩:=h;exact acT h1)
  | (simp only[Option.bind_eq_some_iff,Option.map_eq_some_iff,Prod.mk.injEq] at h;obtain⟨_,_,_,_,_,_,_,rfl⟩:=h;exact⟨rfl,rfl⟩)
  |simp at h
  | (simp only[Option.bind_eq_some_iff] at h
     obtain⟨_,_,h⟩:=h
     split at h
     ·simp only[Option.some.injEq,Prod.mk.injEq] at h;obtain⟨_,rfl⟩:=h;exact⟨rfl,rfl⟩
     ·simp at h)
  |skip
 all_goals
  repeat' first
   |exact⟨rfl,rfl⟩
   | (obtain⟨_,_,h⟩:=h)
   | (simp only[Option.bind_eq_some_iff] at h)
   |split at h
   | (simp only[Option.some.injEq,Prod.mk.injEq] at h;obtain⟨_,rfl⟩:=h;exact⟨rfl,rfl⟩)
   | (simp only[Option.map_eq_some_iff,Prod.mk.injEq] at h;obtain⟨_,_,_,rfl⟩:=h;exact⟨rfl,rfl⟩)
   | (simp at h;done)
end
end Aq
end
section
namespace Aq
open Go Go.RowKit
def aN.lend (I:Nat→Nat→Prop) (IM:Nat→Prop):aN:=
 {A:=fun _=>False,blk:=fun _=>0,sz:=fun _=>0,ob:=fun _=>0,lo:=fun _=>0,hi:=fun _=>0,lp:=fun _=>0,I:=I,IM:=IM,D:=fun _=>False,ρ:=fun _=>none}
def grow (I:Nat→Nat→Prop) (B:Nat) (w:World) (b o:Nat):Prop:=(I b o∨B≤b)∧∃v,w.cell? (at_ b o)=some v
def qA (IM:Nat→Prop) (B:Nat) (w:World) (b:Nat):Prop:=(IM b∨B≤b)∧∃es bE,w.heap[b]? =some (.map es bE)
theorem ou:∀{l:List V},aR l=true→∀i,i<l.length→aF (l.getD i aC)=true
 |v::l,h,0,_=>by simp only[aR,Bool.and_eq_true] at h;exact h.1
 |v::l,h,i+1,hi=>by simp only[aR,Bool.and_eq_true] at h;exact ou h.2 i (by simpa using hi)
theorem M6:∀{l:List V},iD l=true→∀i,i<l.length→flat (l.getD i aC)=true
 |v::l,h,0,_=>by simp only[iD,Bool.and_eq_true] at h;exact h.1
 |v::l,h,i+1,hi=>by simp only[iD,Bool.and_eq_true] at h;exact M6 h.2 i (by simpa using hi)
theorem M7 {v:V} (h:aF v=true) {j:Nat} (hj:j<v.cells.length):aF (v.cells.getD j aC)=true:=by
 cases v with
 |agg cs=>exact ou (l:=cs) (by simpa [aF] using h) j hj
 |_=>
  have:j=0:=by simpa [V.cells] using hj
  subst this;exact h
section
variable {K K':aN} {T T':Nat→Nat} {w w':World}
theorem Rel.pure {v:V} {c:Value} (h:Rel K T w v c) (hp:aF v=true) (hI:∀b o,K.I b o→K'.I b o∧w'.cell? (at_ b o)=w.cell? (at_ b o))
 (hM:∀b,K.IM b→K'.IM b∧w'.heap[b]? =w.heap[b]?):Rel K' T' w' v c:=by
 induction h with
 |int k n=>exact .int k n
 |bool b=>exact .bool b
 |str s b h=>exact .str s b h
 |eu=>exact .eu
 |dU=>exact .dU
 |dP=>exact .dP
 |fB=>exact .fB
 |agg cs vs hl _ ih=>exact .agg cs vs hl (fun i hi=>ih i hi (ou (by simpa [aF] using hp) i hi))
 |bA cs vs hl _ ih=>exact .bA cs vs hl (fun i hi=>ih i hi (ou (by simpa [aF] using hp) i hi))
 |dF c a ha hc=>
  cases c<;>simp only[aF,Bool.false_eq_true] at hp
  exact .dF .sh a (fun h=>by cases h) trivial
 |aj c l b o n cap val hle hn hcell _ hc ih=>
  cases c<;>simp only[aF,Bool.false_eq_true] at hp
  refine .aj .sh l b o n cap val hle hn (fun i j hi hj=> ?_) (fun i j hi hj=>ih i j hi hj (M7 (ou hp i hi) (by rw[hn i hi];exact hj))) trivial
  obtain⟨h1,h2⟩:=hcell i j hi hj
  obtain⟨g1,g2⟩:=hI _ _ h2
  exact⟨g2.trans h1,g1⟩
 |vw loc s off len cap aU ag cB hA hc hle hsz=>simp[aF] at hp
 |jT loc s aU ag hA=>simp[aF] at hp
 |aI cs off b o val hcell _ ih=>
  refine .aI cs off b o val (fun j hj=> ?_) (fun j hj=>ih j hj (ou (by simpa [aF] using hp) j hj))
  obtain⟨h1,h2⟩:=hcell j hj
  obtain⟨g1,g2⟩:=hI _ _ h2
  exact⟨g2.trans h1,g1⟩
 |ref loc s off hA=>simp[aF] at hp
 |fn f a b av bv ha hb _ _ iha ihb=>
  simp only[aF,Bool.and_eq_true] at hp
  exact .fn f a b av bv ha hb (fun i hi=>iha i hi (ou hp.1 i hi)) (fun i hi=>ihb i hi (ou hp.2 i hi))
 |yield l hA=>simp[aF] at hp
 |bN loc s hA=>simp[aF] at hp
 |cK ks vs b es bE hM' hb hk hv _ _ ihk Bw=>
  simp only[aF,Bool.and_eq_true] at hp
  obtain⟨g1,g2⟩:=hM b hM'
  exact .cK ks vs b es bE g1 (g2.trans hb) hk hv (fun i hi=>ihk i hi (ou hp.1 i (by omega))) (fun i hi=>Bw i hi (ou hp.2 i (by omega)))
 |iface t v c _ ih=>exact .iface t v c (ih (by simpa [aF] using hp))
 |raw v=>simp[aF] at hp
theorem Rel.flat {v:V} {c:Value} (h:Rel K T w v c) (hp:flat v=true):Rel K' T' w' v c:=by
 induction h with
 |int k n=>exact .int k n
 |bool b=>exact .bool b
 |str s b h=>exact .str s b h
 |eu=>exact .eu
 |dU=>exact .dU
 |dP=>exact .dP
 |fB=>exact .fB
 |agg cs vs hl _ ih=>exact .agg cs vs hl (fun i hi=>ih i hi (M6 (by simpa [Aq.flat] using hp) i hi))
 |bA cs vs hl _ ih=>exact .bA cs vs hl (fun i hi=>ih i hi (M6 (by simpa [Aq.flat] using hp) i hi))
 |_=>simp[Aq.flat] at hp
theorem acW {cs:List V} {vs:Array Value} (h:Rel K T w (.agg cs) (.agg vs)):cs.length=vs.size∧∀i,i<cs.length→Rel K T w (cs.getD i aC) (vs.getD i undef):=by
 cases h with
 |agg _ _ hl h=>exact⟨hl,h⟩
theorem acX {n:Nat} {σ:ah} {cs:List V} {v:V} (h:aM n σ (.agg cs)=some v):∃cs',v= .agg cs':=by
 cases n with
 |zero=>simp[aM] at h
 |succ n=>
  unfold aM at h
  split at h
  ·simp only[Option.some.injEq] at h;exact⟨cs,h.symm⟩
  ·simp only[Option.map_eq_some_iff] at h;obtain⟨cs',_,rfl⟩:=h;exact⟨cs',rfl⟩
theorem acY {n:Nat} {σ:ah} {x v:V} (hx:∀cs,x≠ .agg cs) (h:aM n σ x=some v):v.cells=[v]∧x.cells=[x]:=by
 have h2:x.cells=[x]:=by cases x<;>first|rfl|exact absurd rfl (hx _)
 refine⟨?_,h2⟩
 cases n with
 |zero=>simp[aM] at h
 |succ n=>
  unfold aM at h
  split at h
  ·simp only[Option.some.injEq] at h;subst h;exact h2
  ·split at h
   all_goals try (simp only[reduceCtorEq] at h;done)
   all_goals try (simp only[Option.map_eq_some_iff] at h;obtain⟨_,_,rfl⟩:=h;first|rfl|exact absurd rfl (hx _))
   all_goals try (simp only[Option.bind_eq_some_iff,Option.map_eq_some_iff] at h;obtain⟨_,_,_,_,rfl⟩:=h;rfl)
   ·simp only[Option.bind_eq_some_iff] at h
    obtain⟨_,_,h⟩:=h
    split at h
    ·simp only[Option.bind_eq_some_iff] at h
     obtain⟨_,_,h⟩:=h
     split at h
     ·simp only[Option.some.injEq] at h;subst h;rfl
     ·simp at h
    ·simp at h
   ·simp only[Option.bind_eq_some_iff] at h
    obtain⟨⟨ks,vs⟩,_,h⟩:=h
    simp only[Option.bind_eq_some_iff,Option.map_eq_some_iff] at h
    obtain⟨_,_,_,_,rfl⟩:=h;rfl
theorem UL {E:Env} {B0:Nat} {σ:ah} (h:aS E B0 σ K w):∀(n:Nat) (v v':V) (c:Value),Rel K σ.top w v c→aM n σ v=some v'→
 Rel (aN.lend (grow K.I B0 w) (qA K.IM B0 w)) T' w v' c:=by
 have sD:∀b o,K.I b o→grow K.I B0 w b o∧w.cell? (at_ b o)=w.cell? (at_ b o):=fun b o hi=>⟨⟨.inl hi,(h.I b o hi).1⟩,rfl⟩
 have uK:∀b,K.IM b→qA K.IM B0 w b∧w.heap[b]? =w.heap[b]? :=fun b hi=>⟨⟨.inl hi,(h.IM b hi).1⟩,rfl⟩
 intro n
 induction n with
 |zero=>intro v v' c _ hc;simp[aM] at hc
 |succ n ih=>
  intro v v' c hr hc
  have hlist:∀(l l':List V) (val:Nat→Value),l.mapM (aM n σ)=some l'→(∀i,i<l.length→Rel K σ.top w (l.getD i aC) (val i))→
   l'.length=l.length∧∀i,i<l'.length→Rel (aN.lend (grow K.I B0 w) (qA K.IM B0 w)) T' w (l'.getD i aC) (val i):=by
   intro l l' val hm hv
   obtain⟨h1,h2⟩:=mapM_some hm
   refine⟨h1.symm,fun i hi=> ?_⟩
   obtain⟨h3,h4⟩:=h2 i (by omega)
   have:=hv i (by omega)
   rw[iq (show i<l.length by omega)] at this
   rw[iq h3]
   exact ih _ _ _ this h4
  have hcells:∀(x x':V) (m:Nat) (val:Nat→Value),aM n σ x=some x'→x.cells.length=m→(∀j,j<m→Rel K σ.top w (x.cells.getD j aC) (val j))→
   x'.cells.length=m∧∀j,j<m→Rel (aN.lend (grow K.I B0 w) (qA K.IM B0 w)) T' w (x'.cells.getD j aC) (val j):=by
   intro x x' m val hx hm hv
   by_cases hag:∃cs,x= .agg cs
   ·obtain⟨cs,rfl⟩:=hag
    obtain⟨cs',rfl⟩:=acX hx
    have hm':cs.length=m:=hm
    have hcell:∀j,j<m→(Array.ofFn fun i:Fin m=>val i).getD j undef=val j:=fun j hj=>by simp[Array.getD,hj]
    have r:Rel K σ.top w (.agg cs) (.agg (Array.ofFn fun i:Fin m=>val i)):=.agg _ _ (by simpa using hm') (fun i hi=>by
     rw[hcell i (by omega)];exact hv i (by omega))
    obtain⟨g1,g2⟩:=acW (ih _ _ _ r hx)
    have g1':cs'.length=m:=by simpa using g1
    exact⟨g1',fun j hj=>by have:=g2 j (by omega);rw[hcell j hj] at this;exact this⟩
   ·obtain⟨h1,h2⟩:=acY (fun cs e=>hag ⟨cs,e⟩) hx
    rw[h2] at hm hv
    have hm1:m=1:=by simpa using hm.symm
    subst hm1
    rw[h1]
    refine⟨rfl,fun j hj=> ?_⟩
    have hj0:j=0:=by omega
    subst hj0
    exact ih _ _ _ (hv 0 (by omega)) hx
  have Gg:∀loc s cs,σ.bO loc s=some cs→cs≠[]→∃vals t,w.heap[K.blk s]? =some (.cells vals t (0,0))∧vals.size=K.sz s∧cs.length≤vals.size∧B0≤K.blk s∧
   (∀i,i<cs.length→Rel K σ.top w (cs.getD i aC) (vals.getD i undef))∧∀i,i<vals.size→w.cell? (at_ (K.blk s) i)=some (vals.getD i undef):=by
   intro loc s cs hcs hne
   obtain⟨g1,_,_⟩:=h.qw hcs
   obtain⟨a1,a2,a3⟩:=h.obj _ _ _ g1
   obtain⟨b1,vals,t,b2,b3,b4,b5⟩:=a2.2 hne
   refine⟨vals,t,b2,b3,b4,b1,b5,fun i hi=> ?_⟩
   simp[World.cell?,b2,Array.getD,hi]
  unfold aM at hc
  split at hc
  ·rename_i hp
   simp only[Option.some.injEq] at hc
   subst hc
   exact hr.pure hp sD uK
  ·cases hr with
   |dF c a ha hcn=>
    simp only[List.mapM_nil,Option.pure_def,Option.map_some,Option.some.injEq] at hc
    subst hc;exact .dF .sh a (fun h=>by cases h) trivial
   |aj c l b o m cap val hle hn hcell hrel hcap=>
    simp only[Option.map_eq_some_iff] at hc
    obtain⟨l',hm,rfl⟩:=hc
    obtain⟨h1,h2⟩:=mapM_some hm
    have hel:∀i,i<l'.length→(l'.getD i aC).cells.length=m∧∀j,j<m→Rel (aN.lend (grow K.I B0 w) (qA K.IM B0 w)) T' w ((l'.getD i aC).cells.getD j aC) (val i j):=by
     intro i hi
     obtain⟨h3,h4⟩:=h2 i (by omega)
     rw[iq h3]
     refine hcells _ _ m (val i) h4 ?_ (fun j hj=> ?_)
     ·have:=hn i (by omega);rwa[iq (show i<l.length by omega)] at this
     ·have:=hrel i j (by omega) hj;rwa[iq (show i<l.length by omega)] at this
    rw[h1]
    refine .aj .sh l' b o m cap val (by omega) (fun i hi=>(hel i hi).1) (fun i j hi hj=> ?_) (fun i j hi hj=>(hel i hi).2 j hj) trivial
    obtain⟨e1,e2⟩:=hcell i j (by omega) hj
    exact⟨e1,(sD _ _ e2).1⟩
   |agg cs vs hl hrel=>
    simp only[Option.map_eq_some_iff] at hc
    obtain⟨l',hm,rfl⟩:=hc
    obtain⟨h1,h2⟩:=hlist _ _ (fun i=>vs.getD i undef) hm hrel
    exact .agg _ _ (by omega) h2
   |bA cs vs hl hrel=>
    simp only[Option.map_eq_some_iff] at hc
    obtain⟨l',hm,rfl⟩:=hc
    obtain⟨h1,h2⟩:=hlist _ _ (fun i=>vs.getD i undef) hm hrel
    exact .bA _ _ (by omega) h2
   |aI cs off b o val hcell hrel=>
    simp only[Option.map_eq_some_iff] at hc
    obtain⟨l',hm,rfl⟩:=hc
    obtain⟨h1,h2⟩:=hlist _ _ val hm hrel
    exact .aI l' off b o val (fun j hj=>⟨(hcell j (by omega)).1,(sD _ _ (hcell j (by omega)).2).1⟩) h2
   |fn f a b av bv ha hb ra rb=>
    simp only[Option.bind_eq_some_iff,Option.map_eq_some_iff] at hc
    obtain⟨a',hma,b',hmb,rfl⟩:=hc
    obtain⟨h1,h2⟩:=hlist _ _ (fun i=>av.getD i undef) hma ra
    obtain⟨h3,h4⟩:=hlist _ _ (fun i=>bv.getD i undef) hmb rb
    exact .fn f a' b' av bv (by omega) (by omega) h2 h4
   |ref loc s off hA=>
    simp only[Option.bind_eq_some_iff,Option.map_eq_some_iff] at hc
    obtain⟨cs,hcs,cs',hm,rfl⟩:=hc
    have key:Rel (aN.lend (grow K.I B0 w) (qA K.IM B0 w)) T' w (.aI cs' off) (.pointer (some (at_ (K.blk s) (0+off)))):=by
     by_cases hne:cs=[]
     ·subst hne
      simp only[List.mapM_nil,Option.pure_def,Option.some.injEq] at hm
      subst hm
      exact .aI [] off _ 0 (fun _=>undef) (fun j hj=>absurd hj (Nat.not_lt_zero j)) (fun j hj=>absurd hj (Nat.not_lt_zero j))
     ·obtain⟨vals,t,e1,e2,e3,e4,e5,e6⟩:=Gg _ _ _ hcs hne
      obtain⟨h1,h2⟩:=hlist _ _ (fun i=>vals.getD i undef) hm e5
      refine .aI cs' off _ 0 (fun i=>vals.getD i undef) (fun j hj=> ?_) h2
      rw[Nat.zero_add]
      exact⟨e6 j (by omega),.inr e4,_,e6 j (by omega)⟩
    rwa[Nat.zero_add] at key
   |jT loc s aU ag hA=>
    simp only[Option.bind_eq_some_iff] at hc
    obtain⟨cs,hcs,hc⟩:=hc
    split at hc
    ·simp only[Option.bind_eq_some_iff] at hc
     obtain⟨cs',hm,hc⟩:=hc
     split at hc
     ·simp only[Option.some.injEq] at hc
      subst hc;exact .dF .sh none (fun _=>rfl) trivial
     ·simp at hc
    ·simp at hc
   |vw loc s off len cap aU ag cB hA hcp hle hsz=>
    simp only[Option.bind_eq_some_iff] at hc
    obtain⟨cs,hcs,hc⟩:=hc
    split at hc
    ·rename_i hlen
     simp only[Option.bind_eq_some_iff] at hc
     obtain⟨cs',hm,hc⟩:=hc
     split at hc
     ·rename_i hag
      simp only[Option.some.injEq] at hc
      subst hc
      have UM:ag=false→aU=1:=fun e=>by simp[e] at hag;exact hag.1
      have UN:ag=false→bf cs'=true:=fun e=>by simp[e] at hag;exact hag.2
      have hl':((cs.drop off).take (len*aU)).length=len*aU:=by simp;omega
      by_cases hne:cs=[]
      ·subst hne
       have h0:len*aU=0:=by simp at hlen;omega
       have hd:(([]:List V).drop off).take (len*aU)=[]:=by simp
       rw[hd] at hm
       simp only[List.mapM_nil,Option.pure_def,Option.some.injEq] at hm
       subst hm
       exact Gp (w:=w) (val:=fun _=>undef) UM (by rw[h0];exact Nat.zero_le _) UN (fun j hj=>by omega) (fun j hj=>by omega) (by omega) trivial
      ·obtain⟨vals,t,e1,e2,e3,e4,e5,e6⟩:=Gg _ _ _ hcs hne
       obtain⟨h1,h2⟩:=hlist _ _ (fun i=>vals.getD (off+i) undef) hm (fun i hi=>by
        rw[hl'] at hi
        rw[mq _ hi,oo]
        exact e5 _ (by omega))
       rw[hl'] at h1
       refine Gp (w:=w) (val:=fun i=>vals.getD (off+i) undef) UM (by omega) UN (fun j hj=>⟨e6 _ (by omega),.inr e4,_,e6 _ (by omega)⟩) (fun j hj=>h2 j (by omega)) (by omega) trivial
     ·simp at hc
    ·simp at hc
   |bN loc s hA=>
    simp only[Option.bind_eq_some_iff] at hc
    obtain⟨⟨ks,vs⟩,hmp,hc⟩:=hc
    simp only[Option.bind_eq_some_iff,Option.map_eq_some_iff] at hc
    obtain⟨ks',hk,vs',hv,rfl⟩:=hc
    have gI:σ.obj loc=some (s,.map ks vs):=by
     unfold ah.eD at hmp
     split at hmp
     ·rename_i s' ks0 vs0 ho
      split at hmp
      ·rename_i hs
       simp only[Option.some.injEq,Prod.mk.injEq] at hmp
       obtain⟨rfl,rfl⟩:=hmp
       rw[ho,hs]
      ·simp at hmp
     ·simp at hmp
    obtain⟨_,⟨a1,es,bE,a2,a3,a4,a5,a6⟩,_⟩:=h.obj _ _ _ gI
    obtain⟨h1,h2⟩:=hlist _ _ (fun i=>(es.getD i default).key) hk (fun i hi=>a5 i (by omega))
    obtain⟨h3,h4⟩:=hlist _ _ (fun i=>(es.getD i default).val) hv (fun i hi=>a6 i (by omega))
    exact .cK ks' vs' _ es bE ⟨.inr a1,es,bE,a2⟩ a2 (by omega) (by omega) (fun i hi=>h2 i (by omega)) (fun i hi=>h4 i (by omega))
   |cK ks vs b es bE hM hb hk hv rk rv=>
    simp only[Option.bind_eq_some_iff,Option.map_eq_some_iff] at hc
    obtain⟨ks',hk',vs',hv',rfl⟩:=hc
    obtain⟨h1,h2⟩:=hlist _ _ (fun i=>(es.getD i default).key) hk' (fun i hi=>rk i (by omega))
    obtain⟨h3,h4⟩:=hlist _ _ (fun i=>(es.getD i default).val) hv' (fun i hi=>rv i (by omega))
    exact .cK ks' vs' b es bE (uK b hM).1 hb (by omega) (by omega) (fun i hi=>h2 i (by omega)) (fun i hi=>h4 i (by omega))
   |iface t x c hx=>
    simp only[Option.map_eq_some_iff] at hc
    obtain⟨x',hx',rfl⟩:=hc
    exact .iface t x' c (ih _ _ _ hx hx')
   |_=>simp at hc
end
end Aq
end
section
namespace Aq
open Go Go.RowKit
def GA (E:Env) (I:Nat→Nat→Prop) (IM:Nat→Prop) (w:World):Prop:=
 (∀b o,I b o→∃v,w.cell? (at_ b o)=some v)∧(∀b,IM b→∃es bE,w.heap[b]? =some (.map es bE))∧
 ∀g cs,E.glob g=some cs→Rel (aN.lend I IM) (fun _=>0) w (.aI cs 0) (.pointer (some (at_ g 0)))
def UO (I:Nat→Nat→Prop) (IM:Nat→Prop) (w:World) (v:V):Ending→World→Prop
 |.returned c,w'=>Below w.heap.size w w'∧Rel (aN.lend (grow I w.heap.size w') (qA IM w.heap.size w')) (fun _=>0) w' v c
 |_,_=>False
def qB (E:Env) (f:FuncId) (args:List V) (v:V):Prop:=
 uJ E f∧∀I IM w cu,GA E I IM w→RelA (aN.lend I IM) (fun _=>0) w args cu→CallsIn Fence.wide 0 E.P f cu w (UO I IM w v)
structure kQ (E:Env):Prop where
 name:∀(f:FuncId) (fn:Func),E.P.funcs[f]? =some fn→fn.name≠ "runtime.NumGoroutine"
 iZ:∀f g,E.iZ f=some g→∀args v,g args=some v→qB E f args v
 mixed:E.P.follows .mixedOrders=true
 flat:∀g cs,E.glob g=some cs→aR cs=true
section
variable {E:Env} {S:iK} {K K':aN} {T T':Nat→Nat} {w w':World} {σ σ':ah} {B0:Nat}
theorem Rel.GD {I:Nat→Nat→Prop} {IM:Nat→Prop} {v:V} {c:Value} (h:Rel (aN.lend I IM) T w v c) (hI:∀b o,I b o→K'.I b o∧w'.cell? (at_ b o)=w.cell? (at_ b o))
 (hM:∀b,IM b→K'.IM b∧w'.heap[b]? =w.heap[b]?):Rel K' T' w' v c:=by
 generalize hK:aN.lend I IM=K at h
 induction h with
 |int k n=>exact .int k n
 |bool b=>exact .bool b
 |str s b h=>exact .str s b h
 |eu=>exact .eu
 |dU=>exact .dU
 |dP=>exact .dP
 |fB=>exact .fB
 |agg cs vs hl _ ih=>exact .agg cs vs hl (fun i hi=>ih i hi)
 |bA cs vs hl _ ih=>exact .bA cs vs hl (fun i hi=>ih i hi)
 |dF c a ha hc=>
  cases c with
  |own n s=>subst hK;exact hc.1.elim
  |_=>exact .dF _ a ha trivial
 |aj c l b o n cap val hle hn hcell _ hc ih=>
  refine .aj c l b o n cap val hle hn (fun i j hi hj=> ?_) ih ?_
  ·obtain⟨h1,h2⟩:=hcell i j hi hj
   subst hK
   obtain⟨g1,g2⟩:=hI _ _ h2
   exact⟨g2.trans h1,g1⟩
  ·cases c with
   |own n s=>subst hK;exact hc.2.1.elim
   |sh=>trivial
   |full=>exact hc
   |nil=>exact hc
 |vw loc s off len cap aU ag cB hA hc hle hsz=>subst hK;exact hA.elim
 |jT loc s aU ag hA=>subst hK;exact hA.elim
 |aI cs off b o val hcell _ ih=>
  refine .aI cs off b o val (fun j hj=> ?_) ih
  obtain⟨h1,h2⟩:=hcell j hj
  subst hK
  obtain⟨g1,g2⟩:=hI _ _ h2
  exact⟨g2.trans h1,g1⟩
 |ref loc s off hA=>subst hK;exact hA.elim
 |fn f a b av bv ha hb _ _ iha ihb=>exact .fn f a b av bv ha hb iha ihb
 |yield l hA=>subst hK;exact hA.elim
 |bN loc s hA=>subst hK;exact hA.elim
 |cK ks vs b es bE hM' hb hk hv _ _ ihk Bw=>
  subst hK
  obtain⟨g1,g2⟩:=hM b hM'
  exact .cK ks vs b es bE g1 (g2.trans hb) hk hv ihk Bw
 |iface t v c _ ih=>exact .iface t v c ih
 |raw v=>exact .raw v
theorem GH {B b o:Nat} (h:Below B w w') (hb:b<B):w'.cell? (at_ b o)=w.cell? (at_ b o):=cell_of_heap (h.block b hb)
theorem UQ {I:Nat→Nat→Prop} {IM:Nat→Prop} (h:GA E I IM w):aS E w.heap.size ah.init (aN.lend I IM) w where
 obj loc s ob hs:=by simp[ah.init] at hs
 own s hs:=hs.elim
 I b o hi:=⟨h.1 b o hi,fun loc e=>by simp[aN.lend] at e⟩
 IM b hi:=⟨h.2.1 b hi,fun loc e=>by simp[aN.lend] at e⟩
 loop l r hl:=by simp[ah.init] at hl
 glob g cs hg:=by
  have:=h.2.2 g cs hg
  exact this.GD (fun _ _ h=>⟨h,rfl⟩) (fun _ h=>⟨h,rfl⟩)
 rb b r hr:=by simp[aN.lend] at hr
 D b hd:=hd.elim
theorem UR (hE:kQ E) (hS:BO E S.call) {f:FuncId} {args:List V} {v:V} (h:iQ E S f args=some v):qB E f args v:=by
 unfold iQ at h
 split at h
 ·rename_i g hg
  exact hE.iZ f g hg args v h
 ·simp only[Option.bind_eq_some_iff] at h
  obtain⟨⟨v0,σ1⟩,hc,h⟩:=h
  obtain⟨_,hb,hs⟩:=hS _ _ _ _ _ _ hc
  refine⟨hb,fun I IM w cu hl hr=> ?_⟩
  have hr':RelA (aN.lend I IM) ah.init.top w args cu:=hr
  refine(hs none w.heap.size (aN.lend I IM) w cu (UQ hl) (Nat.le_refl _) (fun s hs=>hs.elim) hr').mono ?_
  intro e w' hp
  cases e with
  |returned c=>
   obtain⟨K1,r1,s1,_,st⟩:=hp
   refine⟨st.below, ?_⟩
   have:=UL (T':=fun _=>0) s1 20 v0 v c r1 h
   refine this.GD (fun b o hi=>⟨⟨?_,hi.2⟩,rfl⟩) (fun b hi=>⟨⟨?_,hi.2⟩,rfl⟩)
   ·rcases hi.1 with h1|h1
    ·exact st.nI b o h1
    ·exact .inr h1
   ·rcases hi.1 with h1|h1
    ·exact st.uw b h1
    ·exact .inr h1
  |panicked ch=>exact hp.elim
  |outgrown=>exact hp.elim
theorem Step.grow (h:aS E B0 σ K w) (hB:B0≤w.heap.size) {new:Nat→Prop} (hb:Below w.heap.size w w'):
 Step E B0 new σ K w σ {K with I:=Aq.grow K.I w.heap.size w',IM:=qA K.IM w.heap.size w'} w':=by
 have sD:∀b o,K.I b o→w'.cell? (at_ b o)=w.cell? (at_ b o):=fun b o hi=>GH hb (lt_of_cell (h.I b o hi).1.choose_spec)
 have uK:∀b,K.IM b→w'.heap[b]? =w.heap[b]? :=fun b hi=>by
  obtain⟨⟨es,bE,h1⟩,_⟩:=h.IM b hi
  exact hb.block b (lt_of_heap h1)
 have e:Ext K σ.top w {K with I:=Aq.grow K.I w.heap.size w',IM:=qA K.IM w.heap.size w'} σ.top w':=
  ⟨fun _ h=>⟨h,rfl,rfl,rfl⟩,fun _ _=>.inl ⟨rfl,rfl,rfl,rfl⟩,fun b o hi=>⟨⟨.inl hi,by rw[sD b o hi];exact(h.I b o hi).1⟩,sD b o hi⟩,
    fun b hi=>⟨⟨.inl hi,by rw[uK b hi];exact(h.IM b hi).1⟩,uK b hi⟩⟩
 refine⟨⟨fun loc s ob hs=> ?_,fun s hs hl=> ?_,fun b o hi=>⟨hi.2, ?_⟩,fun b hi=>⟨hi.2, ?_⟩,fun l r hl=> ?_,fun g cs hg=>(h.glob g cs hg).ext e,fun b r hr=> ?_,fun b hd=> ?_⟩,e,
  ⟨hb.os,hb.tape,hb.output,hb.size,fun k hk=>hb.block k (by omega)⟩,fun _ h=>h,fun _ h=>.inl h,fun b o hi=>hi.1.imp id (by omega),fun b hi=>hi.1.imp id (by omega)⟩
 ·obtain⟨a1,a2,a3⟩:=h.obj loc s ob hs
  exact⟨a1,a2.ext e a1 (fun hr=>hb.block _ (h.rb _ _ (a3 hr)).1),a3⟩
 ·obtain⟨a1,a2,a3⟩:=h.own s hs hl
  have hlt:=(h.rb _ _ a2).1
  refine⟨a1,a2,fun o h1 h2=> ?_⟩
  obtain⟨c1,⟨v,c2⟩,c3⟩:=a3 o h1 h2
  refine⟨fun hi=> ?_,⟨v,(GH hb hlt).trans c2⟩, ?_⟩
  ·rcases hi.1 with h1|h1
   ·exact c1 h1
   ·have:w.heap.size≤K.ob s:=h1
    omega
  ·rw[frozen_of_heap (hb.block _ hlt)];exact c3
 ·intro loc hρ
  rcases hi.1 with h1|h1
  ·exact(h.I b o h1).2 loc hρ
  ·have:=(h.rb _ _ hρ).1;omega
 ·intro loc hρ
  rcases hi.1 with h1|h1
  ·exact(h.IM b h1).2 loc hρ
  ·have:=(h.rb _ _ hρ).1;omega
 ·obtain⟨a1,a2⟩:=h.loop l r hl
  exact⟨a1,a2.ext e a1 (hb.block _ (h.rb _ _ a2.2.1).1) rfl⟩
 ·have:=h.rb b r hr;exact⟨Nat.lt_of_lt_of_le this.1 hb.size,this.2⟩
 ·have:=h.D b hd
  rw[hb.block b (lt_of_heap this)];exact this
def aN.kC (K:aN) (B:Nat) (w':World) (st ob lo hi:Nat):aN:=
 {K with A:=fun x=>K.A x∨x=st,ob:=upd K.ob st ob,lo:=upd K.lo st lo,hi:=upd K.hi st hi,I:=fun b o=>Aq.grow K.I B w' b o∧¬(b=ob∧lo≤o∧o<hi),IM:=qA K.IM B w',ρ:=fun b=>if b=ob∧lo<hi then some (.own st) else K.ρ b}
theorem Step.kC (h:aS E B0 σ K w) (hB:B0≤w.heap.size) {st T1:Nat} (hst:¬K.A st) (hb:Below w.heap.size w w') {ob lo hi:Nat}
 (ho:lo<hi→w.heap.size≤ob∧∀o,lo≤o→o<hi→(∃v,w'.cell? (at_ ob o)=some v)∧w'.frozen? (at_ ob o)=false):
 Step E B0 (· =st) σ K w (σ.bV st T1) (K.kC w.heap.size w' st ob lo hi) w':=by
 have sD:∀b o,K.I b o→w'.cell? (at_ b o)=w.cell? (at_ b o):=fun b o hi=>GH hb (lt_of_cell (h.I b o hi).1.choose_spec)
 have uK:∀b,K.IM b→w'.heap[b]? =w.heap[b]? :=fun b hi=>by
  obtain⟨⟨es,bE,h1⟩,_⟩:=h.IM b hi
  exact hb.block b (lt_of_heap h1)
 have hne:∀x,K.A x→x≠st:=fun x hx e=>hst (e▸hx)
 have M8:∀b,b<w.heap.size→(K.kC w.heap.size w' st ob lo hi).ρ b=K.ρ b:=fun b hbl=>by
  show (if b=ob∧lo<hi then some (xV.own st) else K.ρ b)=K.ρ b
  rw[if_neg]
  rintro⟨rfl,h2⟩
  have:=(ho h2).1
  omega
 have hold:∀b o,b<w.heap.size→¬(b=ob∧lo≤o∧o<hi):=by
  rintro b o hbl ⟨rfl,h2,h3⟩
  have:=(ho (by omega)).1
  omega
 have e:Ext K σ.top w (K.kC w.heap.size w' st ob lo hi) (σ.bV st T1).top w':=
  ⟨fun _ h=>⟨.inl h,rfl,rfl,rfl⟩,fun x hx=>.inl ⟨upd_ne _ _ (hne x hx),upd_ne _ _ (hne x hx),upd_ne _ _ (hne x hx),upd_ne _ _ (hne x hx)⟩,
    fun b o hi=>⟨⟨⟨.inl hi,by rw[sD b o hi];exact(h.I b o hi).1⟩,hold b o (lt_of_cell (h.I b o hi).1.choose_spec)⟩,sD b o hi⟩,
    fun b hi=>⟨⟨.inl hi,by rw[uK b hi];exact(h.IM b hi).1⟩,uK b hi⟩⟩
 refine⟨⟨fun loc s x hs=> ?_,fun s hs hl=> ?_,fun b o hq=>⟨hq.1.2, ?_⟩,fun b hq=>⟨hq.2, ?_⟩,fun l r hl=> ?_,fun g cs hg=>(h.glob g cs hg).ext e,fun b r hr=> ?_,fun b hd=> ?_⟩,e,
  ⟨hb.os,hb.tape,hb.output,hb.size,fun k hk=>hb.block k (by omega)⟩,fun _ h=>h,fun _ h=>h,fun b o hi=>hi.1.1.imp id (by omega),fun b hi=>hi.1.imp id (by omega)⟩
 ·obtain⟨a1,a2,a3⟩:=h.obj loc s x hs
  refine⟨.inl a1,a2.ext e a1 (fun hr=>hb.block _ (h.rb _ _ (a3 hr)).1),fun hr=> ?_⟩
  show (K.kC w.heap.size w' st ob lo hi).ρ (K.blk s)=_
  rw[M8 _ (h.rb _ _ (a3 hr)).1];exact a3 hr
 ·by_cases hxs:s=st
  ·subst hxs
   have q1:(K.kC w.heap.size w' s ob lo hi).ob s=ob:=upd_same _ _ _
   have q2:(K.kC w.heap.size w' s ob lo hi).lo s=lo:=upd_same _ _ _
   have q3:(K.kC w.heap.size w' s ob lo hi).hi s=hi:=upd_same _ _ _
   rw[q2,q3] at hl
   obtain⟨o1,o2⟩:=ho hl
   refine⟨by rw[q1];omega, ?_,fun o h1 h2=> ?_⟩
   ·rw[q1]
    show (if ob=ob∧lo<hi then some (xV.own s) else K.ρ ob)=_
    rw[if_pos ⟨rfl,hl⟩]
   ·rw[q2] at h1;rw[q3] at h2;rw[q1]
    exact⟨fun hI=>hI.2 ⟨rfl,h1,h2⟩,(o2 o h1 h2).1,(o2 o h1 h2).2⟩
  ·have hA:K.A s:=hs.resolve_right hxs
   have q1:(K.kC w.heap.size w' st ob lo hi).ob s=K.ob s:=upd_ne _ _ hxs
   have q2:(K.kC w.heap.size w' st ob lo hi).lo s=K.lo s:=upd_ne _ _ hxs
   have q3:(K.kC w.heap.size w' st ob lo hi).hi s=K.hi s:=upd_ne _ _ hxs
   rw[q2,q3] at hl
   obtain⟨a1,a2,a3⟩:=h.own s hA hl
   have hlt:=(h.rb _ _ a2).1
   refine⟨by rw[q1];exact a1,by rw[q1,M8 _ hlt];exact a2,fun o h1 h2=> ?_⟩
   rw[q2] at h1;rw[q3] at h2;rw[q1]
   obtain⟨c1,⟨v,c2⟩,c3⟩:=a3 o h1 h2
   refine⟨fun hi=> ?_,⟨v,(GH hb hlt).trans c2⟩, ?_⟩
   ·rcases hi.1.1 with h1|h1
    ·exact c1 h1
    ·omega
   ·rw[frozen_of_heap (hb.block _ hlt)];exact c3
 ·intro loc hρ
  have sF:(if b=ob∧lo<hi then some (xV.own st) else K.ρ b)=some (.obj loc):=hρ
  split at sF
  ·cases sF
  ·rcases hq.1.1 with h1|h1
   ·exact(h.I b o h1).2 loc sF
   ·have:=(h.rb _ _ sF).1;omega
 ·intro loc hρ
  have sF:(if b=ob∧lo<hi then some (xV.own st) else K.ρ b)=some (.obj loc):=hρ
  split at sF
  ·cases sF
  ·rcases hq.1 with h1|h1
   ·exact(h.IM b h1).2 loc sF
   ·have:=(h.rb _ _ sF).1;omega
 ·obtain⟨a1,a2⟩:=h.loop l r hl
  exact⟨.inl a1,a2.ext e a1 (hb.block _ (h.rb _ _ a2.2.1).1) (M8 _ (h.rb _ _ a2.2.1).1)⟩
 ·have hr':(if b=ob∧lo<hi then some (xV.own st) else K.ρ b)=some r:=hr
  split at hr'
  ·rename_i hc
   obtain⟨o1,o2⟩:=ho hc.2
   obtain⟨⟨v,hv⟩,_⟩:=o2 lo (Nat.le_refl _) hc.2
   rw[hc.1]
   exact⟨lt_of_cell hv,by omega⟩
  ·have:=h.rb b r hr';exact⟨Nat.lt_of_lt_of_le this.1 hb.size,this.2⟩
 ·have:=h.D b hd
  rw[hb.block b (lt_of_heap this)];exact this
end
end Aq
end
section
namespace Aq
open Go Go.RowKit
section
variable {E:Env} {S:iK} {K K':aN} {w w':World} {σ σ':ah} {B0:Nat}
theorem M9 (w:World) (b:Nat) (o:Obj):Only b w (w.putObj b o):=⟨rfl,rfl,rfl,by simp,fun _ hk _=>World.putObj_heap_other hk⟩
theorem Step.eB (h:aS E B0 σ K w) (hB:B0≤w.heap.size) {new:Nat→Prop} {l:Nat} {r r':l8} (hl:σ.loops l=some r) (h1:r'.fr=r.fr) (h2:r'.ps=r.ps) (h3:r'.dB=r.dB) (h4:r'.body=r.body)
 {rec:Go.Loop} (hr:w.heap[K.lp l]? =some (.loop rec)):
 Step E B0 new σ K w (σ.eB l r') K (w.putObj (K.lp l) (.loop {rec with state:=nC r'.st,pending:=r'.pend.bind oh})):=by
 obtain⟨hA,hb0,hρ,fn,tmps,D,hh,hf,hok⟩:=h.loop l r hl
 have hrec:rec={state:=nC r.st,pending:=r.pend.bind oh,fn:=fn,tmps:=tmps,params:=r.ps.toArray,assign:=r.dB,body:=r.body,defers:=D}:=by
  rw[hh] at hr;simpa using hr.symm
 have hlt:=lt_of_heap hr
 have ho:=M9 w (K.lp l) (.loop {rec with state:=nC r'.st,pending:=r'.pend.bind oh})
 have hnew:(w.putObj (K.lp l) (.loop {rec with state:=nC r'.st,pending:=r'.pend.bind oh})).heap[K.lp l]? =some (.loop {rec with state:=nC r'.st,pending:=r'.pend.bind oh}):=World.putObj_heap_same hlt
 have hcell:∀b o v,w.cell? (at_ b o)=some v→b≠K.lp l:=fun b o v hv e=>by
  subst e
  simp[World.cell?,hr] at hv
 have e:Ext K σ.top w K σ.top (w.putObj (K.lp l) (.loop {rec with state:=nC r'.st,pending:=r'.pend.bind oh})):=by
  refine⟨fun _ h=>⟨h,rfl,rfl,rfl⟩,fun _ _=>.inl ⟨rfl,rfl,rfl,rfl⟩,fun b o hi=>⟨hi, ?_⟩,fun b hi=>⟨hi, ?_⟩⟩
  ·obtain⟨⟨v,hv⟩,_⟩:=h.I b o hi
   exact cell_of_heap (ho.block b (hcell b o v hv) (lt_of_cell hv))
  ·obtain⟨⟨es,bE,hv⟩,_⟩:=h.IM b hi
   exact ho.block b (nD hv hr (by simp)) (lt_of_heap hv)
 refine⟨?_,e,ho.below hb0 hB,fun _ h=>h,fun _ h=>.inl h,fun _ _ h=>.inl h,fun _ h=>.inl h⟩
 refine h.upd (σ':=σ.eB l r') ho e (fun _ _=>rfl) (fun r hr'=>⟨by simpa using hlt,hb0⟩) ?_ ?_ ?_ ?_ ?_ ?_
 ·intro loc s ob hs
  refine .inl ⟨hs,fun jv=> ?_⟩
  intro e'
  have:=(h.obj loc s ob hs).2.2 jv
  rw[e',hρ] at this
  cases this
 ·intro s hs hlt'
  refine .inl ⟨hs,rfl,rfl,rfl,fun e'=> ?_⟩
  have:=(h.own s hs hlt').2.1
  rw[e',hρ] at this
  cases this
 ·intro b' o hi
  obtain⟨⟨v,hv⟩,_⟩:=h.I b' o hi
  exact .inl ⟨hi,hcell b' o v hv⟩
 ·intro b' hi
  obtain⟨⟨es,bE,hv⟩,_⟩:=h.IM b' hi
  exact .inl ⟨hi,nD hv hr (by simp)⟩
 ·intro l' r1 hl'
  by_cases hll:l'=l
  ·subst hll
   right
   have hr1:r'=r1:=by simpa [ah.eB,upd] using hl'
   subst hr1
   refine⟨hA,hb0,hρ,fn,tmps,D, ?_, ?_, ?_⟩
   ·rw[hnew,hrec,h2,h3,h4]
   ·rw[h1];exact hf.ext e
   ·rw[h2,h3,h4];exact hok
  ·left
   have hl1:σ.loops l'=some r1:=by simpa [ah.eB,upd,hll] using hl'
   refine⟨hl1,fun e'=> ?_⟩
   have:=(h.loop l' r1 hl1).2.2.1
   rw[e',hρ] at this
   cases this
   exact hll rfl
 ·intro b' hd
  exact .inl ⟨hd,nD (h.D b' hd) hr (by simp)⟩
theorem acZ {T:Nat→Nat}:∀(ps:List Nat) (args:List V) (cs:List Value) (fr:Fr) (tmps:Array Value),ps.length=args.length→args.length=cs.length→jq K T w fr tmps→(∀i,i<args.length→Rel K T w (args.getD i aC) (cs.getD i undef))→
 (∀p∈ps,p<tmps.size)→jq K T w {fr with tm:=(ps.zip args).foldl (fun tm (p,a)=>upd tm p a) fr.tm} ((ps.zip cs).foldl (fun tmps (t,a)=>tmps.setIfInBounds t a) tmps)∧
   ((ps.zip cs).foldl (fun tmps (t,a)=>tmps.setIfInBounds t a) tmps).size=tmps.size:=by
 intro ps
 induction ps with
 |nil=>intro args cs fr tmps _ _ hf _ _;exact⟨hf,rfl⟩
 |cons p ps ih=>
  intro args cs fr tmps hl hl2 hf hr hp
  cases args with
  |nil=>simp at hl
  |cons a args=>
   cases cs with
   |nil=>simp at hl2
   |cons c cs=>
    have hput:=jq.put (K:=K) (w:=w) (T:=T) (a:={tmps:=tmps,defers:=[]}) hf (d:=some p) (v:=a) (c:=c) (hr 0 (by simp)) (fun i hi=>by cases hi;exact hp p (by simp))
    have:=ih args cs (fr.set p a) (tmps.setIfInBounds p c) (by simpa using hl) (by simpa using hl2) hput (fun i hi=>hr (i+1) (by simpa using hi)) (fun q hq=>by simpa using hp q (by simp[hq]))
    refine⟨this.1,this.2.trans (by simp)⟩
theorem zip_toArray (ps:List Nat) (cs:Array Value) (tmps:Array Value):
 (ps.toArray.zip cs).foldl (fun tmps (t,a)=>tmps.setIfInBounds t a) tmps=(ps.zip cs.toList).foldl (fun tmps (t,a)=>tmps.setIfInBounds t a) tmps:=by
 rw[←Array.foldl_toList]
 congr 1
 simp
theorem ac0 (hS:Gy E S.code) (h:aS E B0 σ K w) (hB:B0≤w.heap.size) (hA:∀s,K.A s→s<σ.next) {l:Nat} {args:List V} {cu:Array Value} {v:V}
 (hv:qm S l args σ=some (v,σ')) (ra:RelA K σ.top w args cu):
 σ.next≤σ'.next∧∃fn tmps dB body,(Instr.yield (K.lp l) cu).run E.P w= .ok (.round (K.lp l) fn tmps dB body) w∧RoundIn Fence.wide 0 E.P (K.lp l) fn tmps dB body w (uI E B0 σ K w v σ'):=by
 unfold qm at hv
 simp only[Option.bind_eq_some_iff] at hv
 obtain⟨r,hl,hv⟩:=hv
 split at hv
 ·rename_i hst
  simp only[Option.bind_eq_some_iff] at hv
  obtain⟨⟨e1,bQ,σ1⟩,BP,hv⟩:=hv
  cases e1 with
  |normal=>
   simp only[Option.bind_eq_some_iff] at hv
   obtain⟨r1,hl1,hv⟩:=hv
   split at hv
   ·rename_i uL
    simp only[Option.bind_eq_some_iff] at hv
    obtain⟨⟨e2,d9,σ2⟩,hbody,r2,hl2,hv⟩:=hv
    split at hv
    ·rename_i an9
     obtain⟨hKl,hb0,hρ,fn,tmps,D,hh,hf,hok1,hok2,hps,hn1,hn2⟩:=h.loop l r hl
     obtain⟨hle1,hw1⟩:=hS _ _ _ _ _ _ BP
     obtain⟨hle2,hw2⟩:=hS _ _ _ _ _ _ hbody
     have ac2:σ1.next≤σ2.next:=hle2
     have hnext:σ'.next=σ2.next:=by
      cases e2<;>simp only[Option.some.injEq,Prod.mk.injEq] at hv<;>obtain⟨_,rfl⟩:=hv<;>rfl
     refine⟨by omega, ?_⟩
     have hsz:cu.size=r.ps.length:=by have:=ra.1;omega
     have Na:=run_yield (P:=E.P) (args:=cu) hh (by simpa using hsz)
     refine⟨_,_,_,_,Na, ?_⟩
     dsimp only
     rw[zip_toArray]
     have Nb:=acZ (K:=K) (w:=w) (T:=σ.top) r.ps args cu.toList r.fr tmps hst.2 (by have:=ra.1;simpa using this) hf (fun i hi=>by rw[Gq];exact ra.2 i hi) hps
     generalize htm:(r.ps.zip cu.toList).foldl (fun tmps (t,a)=>tmps.setIfInBounds t a) tmps=ac3 at Nb
     refine roundIn_of_wpIn trivial ?_
     have hs0:St E B0 σ K w {r.fr with tm:=(r.ps.zip args).foldl (fun tm (p,a)=>upd tm p a) r.fr.tm} {tmps:=ac3,defers:=[]} tmps.size ⟨[],0,true⟩:=
      ⟨h,hB,Nb.1,Nb.2,⟨[],rfl,List.nodup_nil,(fun b hb=>by cases hb),fun _=>rfl⟩,hA,Nat.zero_le _⟩
     refine wpIn_mono (hw1 (some (K.lp l)) B0 K w _ tmps.size ⟨[],0,true⟩ hs0 hok1 (.inr hn1)) ?_
     rintro x a1 w1 ⟨hx,K1,hs1,st1⟩
     cases x<;>simp only[nE] at hx
     obtain⟨ac4,hb1,hρ1,UU,UW,D1,UY,hf1,_⟩:=hs1.ok.loop l r1 hl1
     have yB:K1.lp l=K.lp l:=(st1.ext.A l hKl).2.2.1
     have hbr:=run_beginRound (P:=E.P) UY (by simp[nC,uL])
     have GI:=Step.eB (new:=newer σ1 (σ1.eB l {r1 with st:=1})) hs1.ok hs1.hB (r':={r1 with st:=1}) hl1 rfl rfl rfl rfl UY
     rw[yB] at hbr
     refine⟨_,hbr, ?_⟩
     have ac5:(w1.putObj (K.lp l) (.loop {state:=LoopState.busy,pending:=r1.pend.bind oh,fn:=UU,tmps:=UW,params:=r1.ps.toArray,assign:=r1.dB,body:=r1.body,defers:=D1}))=
      (w1.putObj (K1.lp l) (.loop {({state:=nC r1.st,pending:=r1.pend.bind oh,fn:=UU,tmps:=UW,params:=r1.ps.toArray,assign:=r1.dB,body:=r1.body,defers:=D1}:Go.Loop) with state:=nC 1,pending:=r1.pend.bind oh})):=by
      rw[yB];rfl
     dsimp only
     rw[ac5]
     have ac6:St E B0 (σ1.eB l {r1 with st:=1}) K1 _ bQ a1 tmps.size ⟨[],0,true⟩:=
      ⟨GI.ok,Nat.le_trans hs1.hB GI.below.size,hs1.fr.ext GI.ext,hs1.sz,hs1.df,hs1.st,Nat.zero_le _⟩
     have st01:=Step.trans (new:=newer σ σ1) st1 (GI.mono (fun s hs=>by have h1:σ1.next≤s:=hs.1;have h2:s<σ1.next:=hs.2;omega))
     refine wpIn_mono (hw2 (some (K.lp l)) B0 K1 _ a1 tmps.size ⟨[],0,true⟩ ac6 hok2 (.inr hn2)) ?_
     rintro x a2 w2 ⟨hx2,K2,hs2,st2⟩
     obtain⟨aoc,hb2,hρ2,fn2,ac8,D2,UZ,hf2,_⟩:=hs2.ok.loop l r2 hl2
     have GJ:K2.lp l=K.lp l:=((st2.ext.A l ac4).2.2.1).trans yB
     have nG:Step E B0 (newer σ σ2) σ K w σ2 K2 w2:=by
      refine(st01.mono ?_).trans (st2.mono ?_)
      ·intro s hs;exact⟨hs.1,Nat.lt_of_lt_of_le hs.2 ac2⟩
      ·intro s hs;exact⟨Nat.le_trans hle1 hs.1,hs.2⟩
     have fin:∀(r':l8) (b:Bool),r'.fr=r2.fr→r'.ps=r2.ps→r'.dB=r2.dB→r'.body=r2.body→σ'=σ2.eB l r'→v= .bool b→
      uI E B0 σ K w v σ' (.returned (.bool b)) (w2.putObj (K2.lp l) (.loop {({state:=nC r2.st,pending:=r2.pend.bind oh,fn:=fn2,tmps:=ac8,params:=r2.ps.toArray,assign:=r2.dB,body:=r2.body,defers:=D2}:Go.Loop) with state:=nC r'.st,pending:=r'.pend.bind oh})):=by
      intro r' b h1 h2 h3 h4 h5 h6
      have stE:=Step.eB (new:=newer σ σ2) hs2.ok hs2.hB (r':=r') hl2 h1 h2 h3 h4 UZ
      subst h5 h6
      have GK:=nG.trans stE
      exact⟨K2,.bool b,GK.ok,hs2.st,GK⟩
     have hend:=fun jump=>run_endRound (P:=E.P) jump UZ
     rw[GJ] at hend
     cases e2 with
     |normal=>
      cases x<;>simp only[nE] at hx2
      simp only[Option.some.injEq,Prod.mk.injEq] at hv
      refine⟨_,_,hend none, ?_⟩
      have:=fin {r2 with st:=0,pend:=none} true rfl rfl rfl rfl hv.2.symm hv.1.symm
      rw[GJ] at this
      exact this
     |exit i=>
      cases x<;>simp only[nE] at hx2
      subst hx2
      simp only[Option.some.injEq,Prod.mk.injEq] at hv
      refine⟨_,_,hend (some (.exit i)), ?_⟩
      have:=fin {r2 with st:=2,pend:=some (.exit i)} false rfl rfl rfl rfl hv.2.symm hv.1.symm
      rw[GJ] at this
      exact this
     |ret=>
      cases x<;>simp only[nE] at hx2
      simp only[Option.some.injEq,Prod.mk.injEq] at hv
      refine⟨_,_,hend (some .ret), ?_⟩
      have:=fin {r2 with st:=2,pend:=some .ret} false rfl rfl rfl rfl hv.2.symm hv.1.symm
      rw[GJ] at this
      exact this
    ·simp at hv
   ·simp at hv
  |exit i=>simp at hv
  |ret=>simp at hv
 ·simp at hv
theorem ada (hS:Gy E S.code) {l:Nat} {args:List V} {v:V} (hv:qm S l args σ=some (v,σ')):σ.next≤σ'.next:=by
 unfold qm at hv
 simp only[Option.bind_eq_some_iff] at hv
 obtain⟨r,hl,hv⟩:=hv
 split at hv
 ·simp only[Option.bind_eq_some_iff] at hv
  obtain⟨⟨e1,bQ,σ1⟩,BP,hv⟩:=hv
  cases e1 with
  |normal=>
   simp only[Option.bind_eq_some_iff] at hv
   obtain⟨r1,hl1,hv⟩:=hv
   split at hv
   ·simp only[Option.bind_eq_some_iff] at hv
    obtain⟨⟨e2,d9,σ2⟩,hbody,r2,hl2,hv⟩:=hv
    split at hv
    ·have h1:=(hS _ _ _ _ _ _ BP).1
     have h2:σ1.next≤σ2.next:=(hS _ _ _ _ _ _ hbody).1
     have h3:σ'.next=σ2.next:=by
      cases e2<;>simp only[Option.some.injEq,Prod.mk.injEq] at hv<;>obtain⟨_,rfl⟩:=hv<;>rfl
     omega
    ·simp at hv
   ·simp at hv
  |exit i=>simp at hv
  |ret=>simp at hv
 ·simp at hv
end
end Aq
end
