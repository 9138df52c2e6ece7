import Derived.Test.YtabmooekodficaaF2104
set_option linter.all false
section
namespace Aq
open Go
theorem Br {α:Type} {p q:α->Bool} {a:α}:∀{l:List α},(∀x,q x=true->p x=true)->a∈l->p a=true->q a=false->l.countP q<l.countP p
 | [],_,h,_,_=>by cases h
 |x::l,vY,hm,hp,hq=>by
  rw[List.countP_cons,List.countP_cons]
  have hle:l.countP q<=l.countP p:=List.countP_mono_left (fun x _ h=>vY x h)
  rcases QN.1 hm with e|e
  ·subst e
   simp only[hp,hq,if_true]
   have:(if false=true then 1 else 0)=0:=rfl
   omega
  ·have:=Br vY e hp hq
   by_cases hx:q x=true
   ·have:=vY x hx
    simp only[hx,this,if_true];omega
   ·have hx':q x=false:=by simpa using hx
    rw[hx']
    have h0:(if false=true then 1 else 0:Nat)=0:=rfl
    rw[h0]
    omega
structure kg (md:Region.Mode) (ops:Array Oper) (done l:List Nat):Prop where
 nodup:l.Nodup
 mem:∀i∈l,i<ops.size/\i∉done
 all:∀i,i<ops.size->i∈done\/i∈l
 ord:∀l1 i l2,l=l1++i::l2->∀o,ops[i]? =some o->∀e∈o.after.toList,Region.binds md e=true->e.on∈done\/e.on∈l1
theorem go_acc (md:Region.Mode) (ops:Array Oper):∀(fuel t:Nat) (listed:Array Bool) (acc:List Nat),
 Region.linearise.go md ops fuel t listed acc=acc.reverse++Region.linearise.go md ops fuel t listed []:=by
 intro fuel
 induction fuel with
 |zero=>intro t listed acc;simp[Region.linearise.go]
 |succ fuel ih=>
  intro t listed acc
  simp only[Region.linearise.go]
  split
  ·rename_i i _
   rw[ih _ _ (i::acc),ih _ _ [i]]
   simp
  ·simp
theorem go_ok (ops:Array Oper) (fJ:edgesOK ops.toList=true):∀(fuel t:Nat) (listed:Array Bool) (done:List Nat),
 listed.size=ops.size->(∀i,i<ops.size->(listed.getD i true=true↔i∈done))->(List.range ops.size).countP (fun i=>decide (i∉done))<=fuel->
 kg .any ops done (Region.linearise.go .any ops fuel t listed []):=by
 have vZ:∀(i:Nat) (o:Oper),ops[i]? =some o->∀e∈o.after.toList,Region.binds .any e=true->e.on<i:=by
  intro i o ho e he hb
  have hi:i<ops.size:=by
   rcases Nat.lt_or_ge i ops.size with h|h
   ·exact h
   ·rw[Array.getElem?_eq_none h] at ho;cases ho
  simp only[edgesOK,QK] at fJ
  have:=fJ i (by simpa using hi)
  have ho':ops.toList[i]? =some o:=by simpa using ho
  rw[ho'] at this
  simp only[QK] at this
  simpa [hb] using this e he
 intro fuel
 induction fuel with
 |zero=>
  intro t listed done hsz hl hf
  refine⟨by simp[Region.linearise.go],by simp[Region.linearise.go],fun i hi=>?_,fun l1 i l2 h=>by simp[Region.linearise.go] at h⟩
  by_cases hd:i∈done
  ·exact .inl hd
  ·have:0< (List.range ops.size).countP (fun i=>decide (i∉done)):=List.countP_pos_iff.2 ⟨i,by simpa using hi,by simpa using hd⟩
   omega
 |succ fuel ih=>
  intro t listed done hsz hl hf
  simp only[Region.linearise.go]
  generalize hrs:(List.range ops.size).filter (fun i=>!listed.getD i true&& ((ops[i]?).map (·.after.all fun e=>!Region.binds .any e||listed.getD e.on false)).getD false)=rs
  have hmem:∀i,i∈rs↔i<ops.size/\i∉done/\∃o,ops[i]? =some o/\∀e∈o.after.toList,Region.binds .any e=true->e.on∈done:=by
   intro i
   rw[<-hrs,List.mem_filter]
   constructor
   ·rintro⟨h1,h2⟩
    have hi:i<ops.size:=by simpa using h1
    simp only[iP,Q6] at h2
    have hd:i∉done:=fun h=>by have:=(hl i hi).2 h;rw[this] at h2;exact absurd h2.1 (by simp)
    have hoi:ops[i]? =some ops[i]:=by simp[hi]
    refine⟨hi,hd,ops[i],hoi,fun e he hb=>?_⟩
    have h3:=h2.2
    rw[hoi] at h3
    simp only[Option.map_some,Option.getD_some,Array.all_eq_true'] at h3
    have h4:=h3 e (by simpa using he)
    rw[hb] at h4
    have hon:e.on<ops.size:=Nat.lt_trans (vZ i _ hoi e he hb) hi
    have h5:listed.getD e.on false=true:=by simpa using h4
    refine(hl e.on hon).1 ?_
    simp only[Array.getD,hsz,hon,dif_pos] at h5⊢
    exact h5
   ·rintro⟨hi,hd,o,ho,he⟩
    refine⟨by simpa using hi,?_⟩
    have h1:listed.getD i true=false:=by
     have:=mt (hl i hi).1 hd
     simpa using this
    simp only[h1,Bool.not_false,Bool.true_and,ho,Option.map_some,Option.getD_some,Array.all_eq_true']
    intro e rQ
    have Bt:e∈o.after.toList:=by simpa using rQ
    cases hb:Region.binds .any e with
    |false=>rfl
    |true=>
     have hon:e.on<ops.size:=Nat.lt_trans (vZ i _ ho e Bt hb) hi
     have:=(hl e.on hon).2 (he e Bt hb)
     simp only[Array.getD,hsz,hon,dif_pos] at this⊢
     show (!true||listed.getInternal e.on _)=true
     rw[this];rfl
  cases hpick:rs[t% rs.length]? with
  |none=>
   have hnil:rs=[]:=by
    cases rs with
    |nil=>rfl
    |cons x xs=>
     have hlt:t% (x::xs).length< (x::xs).length:=Nat.mod_lt _ (by simp)
     rw[List.getElem?_eq_none_iff] at hpick
     omega
   simp only[List.reverse_nil]
   refine⟨by simp,by simp,fun i hi=>?_,fun l1 i l2 h=>by simp at h⟩
   refine Classical.byContradiction fun hno=>?_
   have hex:∃i,i<ops.size/\i∉done:=⟨i,hi,fun h=>hno (.inl h)⟩
   have hmin:∀k,(∃i,i<=k/\i<ops.size/\i∉done)->∃i,i<ops.size/\i∉done/\∀j,j<i->j∈done:=by
    intro k
    induction k with
    |zero=>
     rintro⟨i,h0,h1,h2⟩
     obtain rfl:i=0:=by omega
     exact⟨0,h1,h2,fun j hj=>absurd hj (Qx j)⟩
    |succ k ihk=>
     rintro⟨i,h0,h1,h2⟩
     by_cases hsm:∃i,i<=k/\i<ops.size/\i∉done
     ·exact ihk hsm
     ·refine⟨i,h1,h2,fun j hj=>Classical.byContradiction fun hjd=>hsm ⟨j,by omega,by omega,hjd⟩⟩
   obtain⟨i0,h1,h2,h3⟩:=hmin i ⟨i,Qt _,hi,fun h=>hno (.inl h)⟩
   have:i0∈rs:=(hmem i0).2 ⟨h1,h2,ops[i0],by simp[h1],fun e he hb=>h3 _ (vZ i0 _ (by simp[h1]) e he hb)⟩
   rw[hnil] at this
   cases this
  |some i=>
   simp only
   rw[go_acc,List.reverse_singleton]
   have hi:i∈rs:=Ru hpick
   obtain⟨hilt,hid,o,ho,he⟩:=(hmem i).1 hi
   have hrec:=ih (t/rs.length) (listed.setIfInBounds i true) (i::done) (by simpa using hsz) (fun j hj=>by
    by_cases hji:j=i
    ·subst hji
     simp[Array.getD,hsz,hj]
    ·have h1:(listed.setIfInBounds i true).getD j true=listed.getD j true:=by
      simp only[Array.getD,Array.size_setIfInBounds,hsz,hj,dif_pos]
      exact Array.getElem_setIfInBounds_ne (by omega) (Ne.symm hji)
     rw[h1,hl j hj]
     simp[hji]) (by
    have:=Br (l:=List.range ops.size) (p:=fun j=>decide (j∉done)) (q:=fun j=>decide (j∉i::done)) (a:=i)
     (fun x hx=>by simp at hx⊢;exact hx.2) (by simpa using hilt) (by simpa using hid) (by simp)
    omega)
   refine⟨?_,?_,?_,?_⟩
   ·simp only[List.singleton_append,Rw]
    exact⟨fun h=>(hrec.mem i h).2 (by simp),hrec.nodup⟩
   ·intro j hj
    rcases QN.1 hj with e|e
    ·subst e;exact⟨hilt,hid⟩
    ·have:=hrec.mem j e
     exact⟨this.1,fun h=>this.2 (by simp[h])⟩
   ·intro j hj
    rcases hrec.all j hj with h|h
    ·rcases QN.1 h with e|e
     ·exact .inr (by simp[e])
     ·exact .inl e
    ·exact .inr (by simp[h])
   ·intro l1 j l2 hjl o' ho' e rQ hb
    cases l1 with
    |nil=>
     simp only[List.singleton_append,List.nil_append,Rb] at hjl
     obtain⟨rfl,_⟩:=hjl
     rw[ho] at ho'
     cases ho'
     exact .inl (he e rQ hb)
    |cons a l1=>
     simp only[List.singleton_append,List.cons_append,Rb] at hjl
     obtain⟨rfl,hjl⟩:=hjl
     rcases hrec.ord l1 j l2 hjl o' ho' e rQ hb with h|h
     ·rcases QN.1 h with e'|e'
      ·exact .inr (by simp[e'])
      ·exact .inl e'
     ·exact .inr (by simp[h])
theorem JA (ops:Array Oper) (fJ:edgesOK ops.toList=true) (t:Nat):kg .any ops [] (Region.linearise .any ops t):=by
 refine go_ok ops fJ ops.size t _ [] (by simp) (fun i hi=>?_) ?_
 ·simp[hi]
 ·have:=List.countP_le_length (p:=fun i=>decide (i∉([]:List Nat))) (l:=List.range ops.size)
  simpa using this
theorem JB {mixed:Bool} (hm:mixed=true) (ops:Array Oper) (fJ:edgesOK ops.toList=true) (t:Nat):∃md,kg md ops [] (Region.schedule mixed ops t):=by
 unfold Region.schedule
 rw[hm,Bool.true_or,if_pos rfl]
 exact⟨_,JA _ fJ _⟩
theorem JC {e:Edge} (md:Region.Mode) (h:Region.binds .any e=true):Region.binds md e=true:=by
 unfold Region.binds at h⊢
 split at h
 ·simp at h
 ·simp at h
 ·rfl
end Aq
end
section
namespace Aq
open Go
section
variable {E:Env} {S:cK} {fr fr':Fr} {σ σ':Sig}
theorem Key.eq_iff {a b:Key}:a.eq b=true↔a=b:=by
 cases a<;>cases b<;>simp[Key.eq,gQ]
 rename_i x y
 obtain⟨x1,x2⟩:=x
 obtain⟨y1,y2⟩:=y
 simp
 exact⟨fun h=>⟨h.2,h.1⟩,fun h=>⟨h.2,h.1⟩⟩
theorem Bu {f g:Foot} (h:clash f g=false) (k:Key):¬(f.W k/\g.T k):=by
 rintro⟨hw,ht⟩
 simp only[clash,QY,List.any_eq_false] at h
 obtain⟨h1,h2⟩:=h
 have JD:k∈f.w:=by
  rcases hw with h| ⟨h,hs⟩
  ·exact h
  ·rw[h,Bool.true_and] at h1
   simp only[QY,List.any_eq_false] at h1
   obtain⟨⟨⟨a1,a2⟩,a3⟩,a4⟩:=h1
   rcases ht with e|e|e| ⟨e,_⟩
   ·subst e;cases hs
   ·exact absurd hs (a3 k e)
   ·exact absurd hs (a4 k e)
   ·rcases e with e|e
    ·rw[a1] at e;cases e
    ·rw[a2] at e;cases e
 have h3:=h2 k JD
 simp only[Rq,List.any_eq_true,iP,not_or,not_exists,not_and] at h3
 obtain⟨⟨⟨h4,h5⟩,h6⟩,h7⟩:=h3
 rcases ht with h|h|h| ⟨h,hs⟩
 ·exact h4 (Key.eq_iff.2 h)
 ·exact h5 k h (Key.eq_iff.2 rfl)
 ·exact h6 k h (Key.eq_iff.2 rfl)
 ·rcases h with h|h
  ·exact h7 (.inl h) hs
  ·exact h7 (.inr h) hs
theorem JE {st:Nat} {o:Oper} {v:V} (hop:opC E S fr σ st o=some (v,fr',σ')):fr'=fr:=by
 unfold opC at hop
 split at hop
 ·split at hop
  ·simp only[Qu,iR] at hop
   obtain⟨_,_,_,rfl,_⟩:=hop;rfl
  ·split at hop
   ·simp only[Qu,iR] at hop
    obtain⟨_,_,_,rfl,_⟩:=hop;rfl
   ·simp only[Qu,iR] at hop
    obtain⟨_,_,_,rfl,_⟩:=hop;rfl
  ·simp at hop
 ·simp at hop
 ·simp only[Qu,iR] at hop
  obtain⟨_,_,_,rfl,_⟩:=hop;rfl
def drop2 (r:Option (V×Fr×Sig)):Option (V×Sig):=r.map fun (v,_,σ)=>(v,σ)
theorem JF {r:Option (V×Fr×Sig)} {v:V} (h:drop2 r=some (v,σ)):∃fr,r=some (v,fr,σ):=by
 simp only[drop2,Qu,iR] at h
 obtain⟨⟨v',fr',σ'⟩,h1,rfl,rfl⟩:=h
 exact⟨fr',h1⟩
theorem rR (r:Option (V×Sig)) (fr:Fr):drop2 (r.map fun (v,σ)=>(v,fr,σ))=r:=by
 cases r<;>rfl
theorem JG (ht:σ'.top=σ.top) {st:Nat} {σ1:Sig} {v:V}:Local (fun k=>k∈[Key.top]) σ σ' (fF σ st σ1 v) (fF σ' st σ1 v):=by
 have hs:∀v:V,Local (fun k=>k∈[Key.top]) σ σ' (some (v,σ)) (some (v,σ')):=fun v=>
  (eH (σ:=σ) (σ':=σ')).local.mono (fun k hk=>by cases hk) (fun k hk=>by rw[Q5.1 hk];exact ht)
 unfold fF
 cases v with
 |lst c l=>
  dsimp only
  refine gY ?_ aQ
  cases c with
  |nil=>exact hs _
  |full=>exact hs _
  |own n s=>exact gY (mP ht) aQ
  |sh=>exact aQ
 |vw loc s off len cap ay ag=>
  dsimp only
  exact gY (dh fun _=>mP ht) aQ
 |_=>exact aQ
theorem JH {b:Bool} {l:List V} (hp:l.all (fun a=>pclean (er a))=true):gP b σ' l=gP b σ l:=by
 have hm:∀l:List V,l.all (fun a=>pclean (er a))=true->l.mapM (closeV 20 σ')=l.mapM (closeV 20 σ):=fun l hp=>oW fun x hx=>Bo (QK.1 hp x hx)
 unfold gP
 cases b with
 |false=>simp only[Qv,if_false];exact hm l hp
 |true=>
  simp only[if_true]
  match l,hp with
  | [],_=>rfl
  |.lst .nil []::l,hp=>
   rw[List.all_cons,iP] at hp
   dsimp only
   rw[hm l hp.2]
  |.lst .nil (_::_)::_,_=>rfl
  |.lst .sh _::_,_=>rfl
  |.lst .full _::_,_=>rfl
  |.lst (.own _ _) _::_,_=>rfl
  |.int _ _::_,_=>rfl
  |.bool _::_,_=>rfl
  |.str _::_,_=>rfl
  |.nilp::_,_=>rfl
  |.nilf::_,_=>rfl
  |.nilm::_,_=>rfl
  |.nili::_,_=>rfl
  |.agg _::_,_=>rfl
  |.tup _::_,_=>rfl
  |.vw _ _ _ _ _ _ _::_,_=>rfl
  |.cref _ _::_,_=>rfl
  |.ref _ _ _::_,_=>rfl
  |.fn _ _ _::_,_=>rfl
  |.mapr _ _::_,_=>rfl
  |.mapc _ _::_,_=>rfl
  |.iface _ _::_,_=>rfl
  |.raw _::_,_=>rfl
theorem JI (ht:σ'.top=σ.top) {st:Nat} {fv:V} {args:List V}:Local (fun k=>k∈[Key.top]) σ σ' (fG E S σ st fv args) (fG E S σ' st fv args):=by
 unfold fG
 cases fv with
 |fn f a b=>
  cases f with
  |func f=>
   dsimp only
   by_cases hp:(a++args++b).all (fun a=>pclean (er a))=true
   ·rw[if_pos hp,if_pos hp,JH hp]
    exact dh fun as=>dh fun r=>JG ht
   ·rw[if_neg hp];exact aQ
  |_=>exact aQ
 |_=>exact aQ
theorem JJ {st:Nat} {o:Oper} (hw:(footS E fr o).wAll=false) (iH:(footS E fr o).tAll=true->σ'=σ) (h:∀k,k∈(footS E fr o).t\/k∈(footS E fr o).w->bB σ σ' k):
 Local (fun k=>k∈(footS E fr o).w) σ σ' (drop2 (opC E S fr σ st o)) (drop2 (opC E S fr σ' st o)):=by
 by_cases hc:∃c,o.op= .call c
 ·obtain⟨c,ho⟩:=hc
  unfold opC
  simp only[ho]
  cases aS:c.callee with
  |builtin b=>
   simp only[rR]
   simp only[footS,ho,aS] at h hw iH
   simp only[footS,ho,aS]
   have hargs:∀(t:List Key),(∀k,k∈(c.args.toList.flatMap fun x=>refK (fr.ev E x))\/k∈t->bB σ σ' k)->∀x∈c.args.toList.map (fr.ev E),∀q∈refK x,bB σ σ' q:=by
    intro t ht x hx q hq
    obtain⟨y,hy,rfl⟩:=Rx.1 hx
    exact ht q (.inl (List.mem_flatMap.2 ⟨y,hy,hq⟩))
   cases b<;>simp only[allF,reduceCtorEq,Bool.true_eq_false] at hw
   case len=>exact(rP (.inl rfl) (hargs [] h)).local
   case cap=>exact(rP (.inr (.inl rfl)) (hargs [] h)).local
   case min=>exact(rP (.inr (.inr (.inl rfl))) (hargs [] h)).local
   case max=>exact(rP (.inr (.inr (.inr rfl))) (hargs [] h)).local
   case append=>
    cases hom:fr.om with
    |true=>rw[hom] at hw;simp at hw
    |false=>
     rw[hom] at h
     simp only[Qv,if_false] at h⊢
     exact Js (hargs _ h) (h .top (.inr (by simp)))
  |value f=>
   simp only[footS,ho,aS] at h hw iH
   simp only[footS,ho,aS]
   cases aO:dx E fr o f with
   |true=>
    rw[aO] at h
    simp only[if_true] at h⊢
    simp only[rR]
    have ht:σ'.top=σ.top:=h .top (.inr (by simp[wrF]))
    exact JI ht
   |false=>
   rw[aO] at h hw iH
   simp only[Qv,if_false] at h hw iH⊢
   simp only[rR]
   generalize o7:fr.ev E f=fv at h hw iH⊢
   cases fv with
   |fn g a b=>
    cases g with
    |func g=>
     simp only at h hw iH⊢
     cases hi:E.imp g with
     |true=>rw[hi] at hw;simp[allF] at hw
     |false=>
      rw[hi] at h iH
      simp only[Qv,if_false] at h iH⊢
      split
      ·rename_i hp
       exact(Jy hi hp).local
      ·rename_i hp
       rw[if_neg hp] at iH
       have:=iH rfl
       subst this
       intro v σ1 hr
       have:=Jz hi hr
       subst this
       exact⟨σ1,hr,.refl _,.refl _,fun k hk=>.refl _ _,fun k hk=>.refl _ _,fun k hk=>.refl _ _⟩
    |_=>simp[allF] at hw
   |_=>simp[allF] at hw
  |invoke r m=>exact aQ
 ·have hc':∀c,o.op≠ .call c:=fun c h=>hc ⟨c,h⟩
  have hd:∀(σ:Sig),(∀d,o.op≠ .defer d)->drop2 (opC E S fr σ st o)=opV E fr σ st o:=by
   intro σ hd
   unfold opC
   split
   ·rename_i c hh;exact absurd hh (hc' c)
   ·rename_i c hh;exact absurd hh (hd c)
   ·exact rR _ _
  by_cases hdf:∃d,o.op= .defer d
  ·obtain⟨d,ho⟩:=hdf
   simp only[footS,ho,allF,Bool.true_eq_false] at hw
  ·have Bv:∀d,o.op≠ .defer d:=fun d h=>hdf ⟨d,h⟩
   rw[hd σ Bv,hd σ' Bv]
   exact Jv hc' hw h
theorem wh {x:V}:Key.nx∉refK x:=by cases x<;>simp[refK]
theorem JK {o:Oper}:Key.nx∉(footS E fr o).w:=by
 have hd:Key.nx∉dstK fr o:=by unfold dstK;cases o.dst<;>simp
 unfold footS
 split<;>try simp[rdF,wrF,allF,hd,wh]
 split<;>try simp[rdF,wrF,allF,wh]
 all_goals (repeat' split)<;>simp[rdF,wrF,allF,wh]
theorem JL {ops:List Oper} {o:Oper} {t:Nat} (h:Operand.tmp t∈o.op.operands.toList):Key.slot t∈slotsT ops o:=by
 refine RI _ (List.mem_filterMap.2 ⟨_,h,rfl⟩)
theorem JM {ops:List Oper} {o:Oper} (h:∀t,Key.slot t∈slotsT ops o->fr'.tm t=fr.tm t):∀x∈o.op.operands.toList,fr'.ev E x=fr.ev E x:=by
 intro x hx
 cases x with
 |tmp t=>exact h t (JL hx)
 |_=>rfl
theorem JN {ops:List Oper} {o:Oper} (h:∀t,Key.slot t∈slotsT ops o->fr'.tm t=fr.tm t):aW ops fr' o=aW ops fr o:=by
 unfold aW
 cases hg:o.guard with
 |none=>rfl
 |some g=>
  obtain⟨j,want⟩:=g
  simp only
  cases hd:(ops[j]?).bind (·.dst) with
  |none=>rfl
  |some t=>
   have:fr'.tm t=fr.tm t:=h t (RP _ (by simp[hg,hd]))
   simp only[this]
theorem lq (fr:Fr) (d:Option Nat) (v:V) (t:Nat):(fr.put d v).tm t=if d=some t then v else fr.tm t:=by
 cases d with
 |none=>simp[Fr.put]
 |some i=>
  show upd fr.tm i v t=_
  by_cases h:t=i
  ·subst h;simp[upd]
  ·have:¬(some i=some t):=fun e=>h (by cases e;rfl)
   simp[upd,h,this]
theorem o8 (fr:Fr) (d:Option Nat) (v:V):(fr.put d v).d=fr.d:=by cases d<;>rfl
theorem o9 (fr:Fr) (d:Option Nat) (v:V):(fr.put d v).om=fr.om:=by cases d<;>rfl
theorem pq {o:Oper} {t:Nat}:Key.slot t∈slotsW o↔o.dst=some t:=by
 unfold slotsW
 cases o.dst with
 |none=>simp
 |some d=>simp only[Q5,Key.slot.injEq,iE];exact⟨fun h=>h.symm,fun h=>h.symm⟩
theorem Bw {ops:List Oper} {base i:Nat} {o:Oper} (ho:ops[i]? =some o) {wt:Bool} (hwt:aW ops fr o=some wt) {aF:Fr} {σ1:Sig} (hs:dz E S ops base i fr σ=some (aF,σ1))
 (x:Fr×Sig) (hx:∀k,(footI E ops fr o wt).T k->Ag k (fr,σ) x):
 ∃y:Fr×Sig,dz E S ops base i x.1 x.2=some y/\(∀k,(footI E ops fr o wt).W k->Ag k (aF,σ1) y)/\(∀k,¬(footI E ops fr o wt).W k->Ag k x y)/\
  ∀k,¬(footI E ops fr o wt).W k->Ag k (fr,σ) (aF,σ1):=by
 obtain⟨fr',σ'⟩:=x
 obtain⟨r1,r2⟩:fr.d=fr'.d/\fr.om=fr'.om:=hx .rest (.inl rfl)
 have hsl:∀t,Key.slot t∈slotsT ops o->fr'.tm t=fr.tm t:=by
  intro t ht
  refine Eq.symm (hx (.slot t) (.inr (.inl ?_)))
  cases wt
  ·exact ht
  ·exact RI _ ht
 have JO:aW ops fr' o=some wt:=(JN hsl).trans hwt
 simp only[dz,ho,hwt,Option.bind_some] at hs
 simp only[dz,ho,JO,Option.bind_some]
 cases wt with
 |false=>
  simp only[Qv,if_false,iE,iR] at hs⊢
  obtain⟨rfl,rfl⟩:=hs
  have hW:∀k,(footI E ops fr o false).W k↔k∈slotsW o:=fun k=>by
   refine⟨fun h=>?_,fun h=>.inl h⟩
   rcases h with h| ⟨h,_⟩
   ·exact h
   ·cases h
  have Bz:∀(f:Fr) (s:Sig) k,¬(footI E ops fr o false).W k->Ag k (f,s) (f.put o.dst undefV,s):=by
   intro f s k hk
   rw[hW] at hk
   cases k with
   |slot t=>
    show f.tm t=(f.put o.dst undefV).tm t
    rw[lq,if_neg (fun e=>hk (pq.2 e))]
   |obj l=>rfl
   |top=>rfl
   |rest=>exact⟨(o8 _ _ _).symm,(o9 _ _ _).symm⟩
   |nx=>exact⟨rfl,rfl⟩
  refine⟨_,rfl,fun k hk=>?_,Bz fr' σ',Bz fr σ⟩
  rw[hW] at hk
  cases k with
  |slot t=>
   show (fr.put o.dst undefV).tm t=(fr'.put o.dst undefV).tm t
   rw[lq,lq,if_pos (pq.1 hk),if_pos (pq.1 hk)]
  |obj l=>exfalso;unfold slotsW at hk;cases hd:o.dst<;>simp[hd] at hk
  |top=>exfalso;unfold slotsW at hk;cases hd:o.dst<;>simp[hd] at hk
  |rest=>exfalso;unfold slotsW at hk;cases hd:o.dst<;>simp[hd] at hk
  |nx=>exfalso;unfold slotsW at hk;cases hd:o.dst<;>simp[hd] at hk
 |true=>
  simp only[if_true,Qu,iR] at hs⊢
  obtain⟨⟨v,aZ,σ2⟩,hop,rfl,rfl⟩:=hs
  obtain rfl:=JE hop
  have key:∃lu,opC E S fr' σ' (base+i) o=some (v,fr',lu)/\(∀k,(footI E ops aZ o true).W k->Ag k (aZ,σ2) (aZ,lu))/\
   (∀k,¬(footI E ops aZ o true).W k->Ag k (aZ,σ) (aZ,σ2)/\Ag k (aZ,σ') (aZ,lu)):=by
   rw[Jk (JM hsl) r1.symm r2.symm]
   have wm:∀k,(footI E ops aZ o true).T k->bB σ σ' k:=by
    intro k hk
    have:=hx k hk
    cases k with
    |obj l=>exact Eq.symm this
    |top=>exact Eq.symm this
    |slot t=>trivial
    |rest=>trivial
    |nx=>trivial
   cases lC:(footS E aZ o).wAll with
   |true=>
    have hst:∀k:Key,k.state=true->bB σ σ' k:=fun k hk=>wm k (.inr (.inr (.inr ⟨.inr lC,hk⟩)))
    have hσ:σ'=σ:=by
     obtain⟨r3,r4⟩:σ.next=σ'.next/\σ.loops=σ'.loops:=hx .nx (.inr (.inr (.inr ⟨.inr lC,rfl⟩)))
     obtain⟨nx,top,obj,lp⟩:=σ
     obtain⟨nx',top',oZ,Bp⟩:=σ'
     have h1:top'=top:=hst .top rfl
     have h2:oZ=obj:=funext fun l=>hst (.obj l) rfl
     simp only at r3 r4
     subst h1 h2 r3 r4;rfl
    subst hσ
    refine⟨σ2,by rw[hop];rfl,fun k _=>.refl _ _,fun k hk=>?_⟩
    cases k with
    |slot t=>exact⟨rfl,rfl⟩
    |obj l=>exact absurd (.inr ⟨lC,rfl⟩) hk
    |top=>exact absurd (.inr ⟨lC,rfl⟩) hk
    |rest=>exact⟨⟨rfl,rfl⟩,⟨rfl,rfl⟩⟩
    |nx=>exact absurd (.inr ⟨lC,rfl⟩) hk
   |false=>
    have iH:(footS E aZ o).tAll=true->σ'=σ:=by
     intro ht
     have hst:∀k:Key,k.state=true->bB σ σ' k:=fun k hk=>wm k (.inr (.inr (.inr ⟨.inl ht,hk⟩)))
     obtain⟨r3,r4⟩:σ.next=σ'.next/\σ.loops=σ'.loops:=hx .nx (.inr (.inr (.inr ⟨.inl ht,rfl⟩)))
     obtain⟨nx,top,obj,lp⟩:=σ
     obtain⟨nx',top',oZ,Bp⟩:=σ'
     have h1:top'=top:=hst .top rfl
     have h2:oZ=obj:=funext fun l=>hst (.obj l) rfl
     simp only at r3 r4
     subst h1 h2 r3 r4;rfl
    have hl:=JJ (S:=S) (st:=base+i) lC iH (fun k hk=>wm k (by
     rcases hk with hk|hk
     ·exact .inr (.inl (RP _ hk))
     ·exact .inr (.inr (.inl (RP _ hk)))))
    obtain⟨lu,h1,h2,h3,h4,h5,h6⟩:=hl v σ2 (by rw[hop];rfl)
    obtain⟨Qk,h1'⟩:=JF h1
    have hWw:∀k,(footI E ops aZ o true).W k->k∈slotsW o\/k∈(footS E aZ o).w:=fun k hk=>by
     rcases hk with h| ⟨h,_⟩
     ·exact List.mem_append.1 h
     ·have:(footS E aZ o).wAll=true:=h
      rw[lC] at this;cases this
    have hto:∀{σa σb:Sig} {k:Key},bB σa σb k->gq σa σb\/k≠ .nx->Ag k (aZ,σa) (aZ,σb):=by
     intro σa σb k ha hn
     cases k with
     |slot t=>rfl
     |obj l=>exact Eq.symm ha
     |top=>exact Eq.symm ha
     |rest=>exact⟨rfl,rfl⟩
     |nx=>
      rcases hn with hn|hn
      ·exact⟨hn.1.symm,hn.2.symm⟩
      ·exact absurd rfl hn
    have JQ:Key.nx∉(footS E aZ o).w:=JK
    refine⟨lu,by rw[h1'];rfl,fun k hk=>?_,fun k hk=>?_⟩
    ·rcases hWw k hk with h|h
     ·cases k with
      |slot t=>rfl
      |obj l=>exfalso;unfold slotsW at h;cases hd:o.dst<;>simp[hd] at h
      |top=>exfalso;unfold slotsW at h;cases hd:o.dst<;>simp[hd] at h
      |rest=>exfalso;unfold slotsW at h;cases hd:o.dst<;>simp[hd] at h
      |nx=>exfalso;unfold slotsW at h;cases hd:o.dst<;>simp[hd] at h
     ·exact hto (h4 k h) (.inr (fun e=>JQ (e▸h)))
    ·have hk':k∉(footS E aZ o).w:=fun h=>hk (.inl (RP _ h))
     exact⟨hto (h5 k hk') (.inl h2),hto (h6 k hk') (.inl h3)⟩
  obtain⟨lu,h1,h2,h3⟩:=key
  refine⟨(fr'.put o.dst v,lu),⟨_,h1,rfl⟩,fun k hk=>?_,fun k hk=>?_,fun k hk=>?_⟩
  ·have hk0:=h2 k hk
   cases k with
   |slot t=>
    show (aZ.put o.dst v).tm t=(fr'.put o.dst v).tm t
    rw[lq,lq]
    split
    ·rfl
    ·exact hx (.slot t) (Foot.Bq hk)
   |obj l=>exact hk0
   |top=>exact hk0
   |rest=>
    refine⟨?_,?_⟩
    ·show (aZ.put o.dst v).d=(fr'.put o.dst v).d;rw[o8,o8];exact r1
    ·show (aZ.put o.dst v).om=(fr'.put o.dst v).om;rw[o9,o9];exact r2
   |nx=>exact hk0
  ·have hk0:=(h3 k hk).2
   cases k with
   |slot t=>
    show fr'.tm t=(fr'.put o.dst v).tm t
    rw[lq,if_neg (fun e=>hk (.inl (RI _ (pq.2 e))))]
   |obj l=>exact hk0
   |top=>exact hk0
   |rest=>exact⟨(o8 _ _ _).symm,(o9 _ _ _).symm⟩
   |nx=>exact hk0
  ·have hk0:=(h3 k hk).1
   cases k with
   |slot t=>
    show aZ.tm t=(aZ.put o.dst v).tm t
    rw[lq,if_neg (fun e=>hk (.inl (RI _ (pq.2 e))))]
   |obj l=>exact hk0
   |top=>exact hk0
   |rest=>exact⟨(o8 _ _ _).symm,(o9 _ _ _).symm⟩
   |nx=>exact hk0
end
end Aq
end
section
namespace Aq
open Go Go.RowKit
section
variable {E:Env} {S:cK}
theorem JR (all:List Oper) (base:Nat):∀(os:List Oper) (k:Nat) (fr:Fr) (σ:Sig) (fs:List Foot) (iX:Fr) (σN:Sig),(∀j,os[j]? =all[k+j]?)->
 dV E S all (base+k) os fr σ=some (fs,iX,σN)->fs.length=os.length/\∃s:Nat->Fr×Sig,s k=(fr,σ)/\s (k+os.length)=(iX,σN)/\
  ∀i,k<=i->i<k+os.length->dz E S all base i (s i).1 (s i).2=some (s (i+1))/\∃o wt,all[i]? =some o/\aW all (s i).1 o=some wt/\fs[i-k]? =some (footI E all (s i).1 o wt):=by
 intro os
 induction os with
 |nil=>
  intro k fr σ fs iX σN _ h
  simp only[dV,iE,iR] at h
  obtain⟨rfl,rfl,rfl⟩:=h
  exact⟨rfl,fun _=>(fr,σ),rfl,rfl,fun i h1 h2=>by simp at h2;omega⟩
 |cons o os ih=>
  intro k fr σ fs iX σN hall h
  have h0:all[k]? =some o:=by simpa using (hall 0).symm
  have JU:∀j,os[j]? =all[k+1+j]? :=fun j=>by have:=hall (j+1);simpa [Q8,Nat.add_comm 1 j] using this
  simp only[dV,mF] at h
  obtain⟨wt,hwt,h⟩:=h
  have main:∀(aF:Fr) (σ1:Sig) (fs':List Foot),dz E S all base k fr σ=some (aF,σ1)->dV E S all (base+(k+1)) os aF σ1=some (fs',iX,σN)->fs=footI E all fr o wt::fs'->
   fs.length=(o::os).length/\∃s:Nat->Fr×Sig,s k=(fr,σ)/\s (k+(o::os).length)=(iX,σN)/\
   ∀i,k<=i->i<k+(o::os).length->dz E S all base i (s i).1 (s i).2=some (s (i+1))/\∃o wt,all[i]? =some o/\aW all (s i).1 o=some wt/\fs[i-k]? =some (footI E all (s i).1 o wt):=by
   intro aF σ1 fs' hstep hrec hfs
   obtain⟨hlen,s,hs1,hs2,hs3⟩:=ih (k+1) aF σ1 fs' iX σN JU hrec
   refine⟨by rw[hfs];simp[hlen],fun i=>if i=k then (fr,σ) else s i,by simp,?_,fun i h1 h2=>?_⟩
   ·have:¬(k+(o::os).length=k):=by simp
    simp only[this,if_false]
    rw[show k+(o::os).length=k+1+os.length by simp;omega]
    exact hs2
   ·by_cases hik:i=k
    ·subst hik
     have:¬(i+1=i):=by omega
     simp only[if_true,this,if_false]
     rw[hs1]
     exact⟨hstep,o,wt,h0,hwt,by rw[hfs];simp⟩
    ·have:¬(i+1=k):=by omega
     simp only[hik,this,if_false]
     obtain⟨g1,o',JV,g2,g3,g4⟩:=hs3 i (by omega) (by simp at h2;omega)
     refine⟨g1,o',JV,g2,g3,?_⟩
     rw[hfs,show i-k=(i-(k+1))+1 by omega]
     simpa using g4
  cases wt with
  |true=>
   simp only[if_true,mF,Qu,iR] at h
   obtain⟨⟨v,aZ,σ2⟩,hop,⟨fs',r⟩,hrec,hfs,hr⟩:=h
   refine main _ _ fs' ?_ (by rw[<-hr];exact hrec) hfs.symm
   simp only[dz,h0,hwt,Option.bind_some,if_true,hop,Option.map_some]
  |false=>
   simp only[Qv,if_false,Qu,iR] at h
   obtain⟨⟨fs',r⟩,hrec,hfs,hr⟩:=h
   refine main _ _ fs' ?_ (by rw[<-hr];exact hrec) hfs.symm
   simp only[dz,h0,hwt,Option.bind_some,Qv,if_false]
theorem wo (ops:List Oper) (base:Nat):∀(l:List Nat) (x:Fr×Sig),oQ (fun i x=>dz E S ops base i x.1 x.2) l x=opsL E S ops base l x.1 x.2
 | [],x=>rfl
 |i::l,x=>by
  simp only[oQ,opsL]
  cases dz E S ops base i x.1 x.2 with
  |none=>rfl
  |some y=>exact wo ops base l y
def iI (acc:List Nat) (o:Oper):Nat:=o.after.toList.foldl (fun s e=>if Region.binds .any e then s|||2^e.on|||acc.getD e.on 0 else s) 0
theorem JW:∀(ops:List Oper) (acc:List Nat),ops.foldl (fun acc o=>acc++[iI acc o]) acc=acc++(ops.foldl (fun acc o=>acc++[iI acc o]) acc).drop acc.length/\
 (ops.foldl (fun acc o=>acc++[iI acc o]) acc).length=acc.length+ops.length/\
 ∀i o,ops[i]? =some o->(ops.foldl (fun acc o=>acc++[iI acc o]) acc).getD (acc.length+i) 0=iI ((ops.foldl (fun acc o=>acc++[iI acc o]) acc).take (acc.length+i)) o:=by
 intro ops
 induction ops with
 |nil=>intro acc;simp
 |cons a ops ih=>
  intro acc
  obtain⟨h1,h2,h3⟩:=ih (acc++[iI acc a])
  simp only[List.foldl_cons]
  generalize hR:ops.foldl (fun acc o=>acc++[iI acc o]) (acc++[iI acc a])=R at h1 h2 h3⊢
  have hpre:R.take acc.length=acc:=by
   rw[h1]
   simp
  refine⟨?_,by rw[h2];simp;omega,fun i o ho=>?_⟩
  ·conv=>lhs;rw[<-Rt acc.length R,hpre]
  ·cases i with
   |zero=>
    simp at ho
    subst ho
    rw[Nat.add_zero,hpre,h1]
    simp
   |succ i=>
    have:=h3 i o (by simpa using ho)
    simpa [Q8,Nat.add_comm 1 i] using this
theorem JX {acc:List Nat} {o:Oper} {j:Nat} (h:(iI acc o).testBit j=true):∃e∈o.after.toList,Region.binds .any e=true/\(j=e.on\/(acc.getD e.on 0).testBit j=true):=by
 unfold iI at h
 generalize hl:o.after.toList=l at h
 clear hl
 have gen:∀(l:List Edge) (s:Nat),(l.foldl (fun s e=>if Region.binds .any e then s|||2^e.on|||acc.getD e.on 0 else s) s).testBit j=true->
  s.testBit j=true\/∃e∈l,Region.binds .any e=true/\(j=e.on\/(acc.getD e.on 0).testBit j=true):=by
  intro l
  induction l with
  |nil=>intro s h;exact .inl h
  |cons e l ih=>
   intro s h
   simp only[List.foldl_cons] at h
   rcases ih _ h with h1| ⟨e',he',hb,hj⟩
   ·split at h1
    ·rename_i hb
     simp only[Nat.testBit_or,Rq] at h1
     rcases h1 with (h1|h1)|h1
     ·exact .inl h1
     ·exact .inr ⟨e,by simp,hb,.inl (by
       rw[Nat.testBit_two_pow] at h1
       have:e.on=j:=by simpa using h1
       exact this.symm)⟩
     ·exact .inr ⟨e,by simp,hb,.inr h1⟩
    ·exact .inl h1
   ·exact .inr ⟨e',by simp[he'],hb,hj⟩
 rcases gen l 0 h with h1|h1
 ·simp at h1
 ·exact h1
theorem JY {ops:List Oper} (fJ:edgesOK ops=true) {i j:Nat} {o:Oper} (ho:ops[i]? =some o) (h:((preM ops).getD i 0).testBit j=true):
 ∃e∈o.after.toList,Region.binds .any e=true/\e.on<i/\(j=e.on\/((preM ops).getD e.on 0).testBit j=true):=by
 have hp:preM ops=ops.foldl (fun acc o=>acc++[iI acc o]) []:=rfl
 obtain⟨_,_,h3⟩:=JW ops []
 have:=h3 i o ho
 simp only[List.length_nil,Q7] at this
 rw[hp,this] at h
 obtain⟨e,he,hb,hj⟩:=JX h
 have hlt:e.on<i:=by
  have hi:i<ops.length:=by
   rcases Nat.lt_or_ge i ops.length with h|h
   ·exact h
   ·rw[List.getElem?_eq_none h] at ho;cases ho
  simp only[edgesOK,QK] at fJ
  have h1:=fJ i (by simpa using hi)
  rw[ho] at h1
  simp only[QK] at h1
  simpa [hb] using h1 e he
 refine⟨e,he,hb,hlt,hj.imp id (fun hj=>?_)⟩
 rw[hp]
 have e1:∀(l:List Nat) (a b:Nat),a<b->(l.take b).getD a 0=l.getD a 0:=fun l a b hab=>by simp[List.getD,List.getElem?_take,hab]
 rw[e1 _ _ _ hlt] at hj
 exact hj
theorem BA {ops:Array Oper} (fJ:edgesOK ops.toList=true) {md:Region.Mode} {l:List Nat} (hl:kg md ops [] l):
 ∀(i:Nat) (l1 l2:List Nat),l=l1++i::l2->∀j,((preM ops.toList).getD i 0).testBit j=true->j∈l1:=by
 intro i
 induction i using Nat.strongRecOn with
 |_ i ih=>
  intro l1 l2 wu j hj
  have hi:i<ops.size:=(hl.mem i (by rw[wu];simp)).1
  have hoi:ops[i]? =some ops[i]:=by simp[hi]
  obtain⟨e,he,hb,hlt,wB⟩:=JY fJ (o:=ops[i]) (by simpa using hoi) hj
  have hon:e.on∈l1:=by
   rcases hl.ord l1 i l2 wu ops[i] hoi e he (JC md hb) with h|h
   ·cases h
   ·exact h
  rcases wB with rfl|wB
  ·exact hon
  ·obtain⟨a,b,rfl⟩:=List.append_of_mem hon
   have:=ih e.on hlt a (b++i::l2) (by rw[wu];simp) j wB
   exact RI _ this
theorem JZ {ops:Array Oper} {base:Nat} {fr iX:Fr} {σ σN:Sig} {fs:List Foot} (hF:dV E S ops.toList base ops.toList fr σ=some (fs,iX,σN)) (fJ:edgesOK ops.toList=true)
 (hP:pairsOK (preM ops.toList) fs=true) {md:Region.Mode} {l:List Nat} (hl:kg md ops [] l):opsL E S ops.toList base l fr σ=some (iX,σN):=by
 obtain⟨hlen,s,hs0,hsn,hs⟩:=JR ops.toList base ops.toList 0 fr σ fs iX σN (fun j=>by simp) (by simpa using hF)
 have hn:ops.toList.length=ops.size:=by simp
 rw[Q7,hn] at hsn
 have hfs:∀i,i<ops.size->∃o wt,ops.toList[i]? =some o/\aW ops.toList (s i).1 o=some wt/\fs.getD i allF=footI E ops.toList (s i).1 o wt/\dz E S ops.toList base i (s i).1 (s i).2=some (s (i+1)):=by
  intro i hi
  obtain⟨g1,o,wt,g2,g3,g4⟩:=hs i (Rj _) (by omega)
  exact⟨o,wt,g2,g3,by simp only[Nat.sub_zero] at g4;simp[List.getD,g4],g1⟩
 have hself:∀i,i<ops.size->∀k,¬(fs.getD i allF).W k->Ag k (s i) (s (i+1)):=by
  intro i hi k hk
  obtain⟨o,wt,g1,g2,g3,g4⟩:=hfs i hi
  rw[g3] at hk
  obtain⟨_,_,_,_,h4⟩:=Bw g1 g2 g4 (s i) (fun k _=>.refl k _)
  exact h4 k hk
 have hap:∀i j,i<ops.size->j<i->((preM ops.toList).getD i 0).testBit j=true\/((∀k,¬((fs.getD i allF).W k/\(fs.getD j allF).T k))/\∀k,¬((fs.getD j allF).W k/\(fs.getD i allF).T k)):=by
  intro i j hi hj
  simp only[pairsOK,QK] at hP
  have:=hP i (by simp;omega) j (by simpa using hj)
  simp only[Rq] at this
  refine this.imp id (fun h=>?_)
  simp only[uE,iP,Q6] at h
  exact⟨Bu h.1,Bu h.2⟩
 have key:=Bc (X:=Fr×Sig) (Key:=Key) ops.size (fun i x=>dz E S ops.toList base i x.1 x.2) Ag Ag.refl (fun k x y z=>Ag.trans) s
  (fun i=>(fs.getD i allF).T) (fun i=>(fs.getD i allF).W) (fun i k=>Foot.Bq)
  (fun i hi x hx=>by
    obtain⟨o,wt,g1,g2,g3,g4⟩:=hfs i hi
    obtain⟨y,h1,h2,h3,_⟩:=Bw g1 g2 g4 x (fun k hk=>hx k (by rw[g3];exact hk))
    exact⟨y,h1,fun k hk=>h2 k (by rw[<-g3];exact hk),fun k hk=>h3 k (by rw[<-g3];exact hk)⟩)
  hself (fun j i=>((preM ops.toList).getD i 0).testBit j=true) hap (fun k x y=>Ag.symm)
  l [] (fr,σ) hl.nodup hl.mem hl.all (fun l1 i l2 h j hj=>.inr (BA fJ hl i l1 l2 h j hj)) (fun i hi=>by cases hi)
  (by
    intro k m
    induction m with
    |zero=>intro _ _;rw[hs0];exact .refl _ _
    |succ m ih=>
     intro hm hj
     refine Ag.trans (Ag.symm (hself m (by omega) k (fun hw=>?_))) (ih (by omega) (fun j hjn hw=>⟨(fun h=>by cases h),(fun h=>by have:=(hj j hjn hw).2 (by omega);cases this)⟩))
     have:=(hj m (by omega) hw).2 (by omega)
     cases this)
 obtain⟨y,h1,h2⟩:=key
 rw[wo] at h1
 have:=Ag.all h2
 rw[hsn] at this
 rw[h1,<-this]
theorem J2 {ops:Array Oper} {base:Nat} {x y:Fr×Sig} (hF:Free E S (preM ops.toList) ops.toList base x y) (fJ:edgesOK ops.toList=true) {md:Region.Mode} {l:List Nat} (hl:kg md ops [] l):
 opsL E S ops.toList base l x.1 x.2=some y:=by
 obtain⟨s,T,W,h0,hn,oU,hloc,hself,hap⟩:=hF
 have hsz:ops.toList.length=ops.size:=by simp
 rw[hsz] at hn hloc hself hap
 obtain⟨z,h1,h2⟩:=Bc (X:=Fr×Sig) (Key:=Key) ops.size (fun i x=>dz E S ops.toList base i x.1 x.2) Ag Ag.refl (fun k x y z=>Ag.trans) s T W oU
  hloc hself (fun j i=>((preM ops.toList).getD i 0).testBit j=true) hap (fun k x y=>Ag.symm)
  l [] x hl.nodup hl.mem hl.all (fun l1 i l2 h j hj=>.inr (BA fJ hl i l1 l2 h j hj)) (fun i hi=>by cases hi)
  (by
    intro k m
    induction m with
    |zero=>intro _ _;rw[h0];exact .refl _ _
    |succ m ih=>
     intro hm hj
     refine Ag.trans (Ag.symm (hself m (by omega) k (fun hw=>?_))) (ih (by omega) (fun j hjn hw=>⟨(fun h=>by cases h),(fun h=>by have:=(hj j hjn hw).2 (by omega);cases this)⟩))
     have:=(hj m (by omega) hw).2 (by omega)
     cases this)
 rw[wo] at h1
 have:=Ag.all h2
 rw[hn] at this
 rw[h1,<-this]
end
section
variable {E:Env} {S:cK} {B0:Nat} {σ σ':Sig} {K K':aA} {w w':World} {fr fr':Fr} {a:Act} {n:Nat}
theorem J3 (hE:EnvOK E) (hS:Sound E S) {id:Nat} {ops:Array Oper} {dr:Bool} {e:Ex} (h:aL E S (.region id ops dr) fr σ=some (e,fr',σ')):dW E (.region id ops dr) fr σ e fr' σ':=by
 have fin:∀(l:List Nat),opsL E S ops.toList σ.next l fr {σ with next:=σ.next+ops.toList.length}=some (fr',σ')->l.Nodup->(∀i∈l,i<ops.size)->∀ro B0 K w a n ds Q,St E B0 σ K w fr a n ds->bN n (.region id ops dr)=true->
  (∀x a' w',kZ E B0 n ds σ K w .normal fr' σ' x a' w'->Q x a' w')->wpOpsIn (FW ro) 0 E.P ops Q l a w:=by
  intro l hl hnd hlt ro B0 K w a n ds Q hs hok hq
  have hnx:=rJ hS _ _ _ _ _ hl
  simp only at hnx
  have hs':St E B0 {σ with next:=σ.next+ops.toList.length} K w fr a n ds:=⟨I9 hs.ok _,hs.hB,hs.fr,hs.sz,hs.df,fun s h=>QF (hs.st s h) (QM _ _),hs.hD⟩
  refine Jb hE hS ops σ.next hok ro _ l fr _ K w a hl hnd hlt hs' (by simp) (fun i _ hA=>by have:=hs.st _ hA;omega) (fun a' K' w' hs2 st=>hq _ _ _ ?_)
  refine⟨trivial,K',hs2,?_⟩
  have st':Step E B0 (newer σ σ') {σ with next:=σ.next+ops.toList.length} K w σ' K' w':=st.mono (fun s hs=>by
   rcases hs with h|h
   ·exact⟨h.1,by simp at hnx;omega⟩
   ·refine⟨Qw (QM _ _) h.1,h.2⟩)
  exact⟨st'.ok,st'.ext,st'.below,st'.D,st'.A,st'.nI,st'.jU⟩
 simp only[aL] at h
 split at h
 ·rename_i hdr
  simp only[mF] at h
  obtain⟨⟨fs,aF,σ1⟩,hF,h⟩:=h
  have hall:aF=fr'/\σ1=σ'/\e= .normal/\edgesOK ops.toList=true/\∀md l,kg md ops [] l->opsL E S ops.toList σ.next l fr {σ with next:=σ.next+ops.toList.length}=some (fr',σ'):=by
   split at h
   ·rename_i hchk
    simp only[iE,iR] at h
    obtain⟨rfl,rfl,rfl⟩:=h
    simp only[iP] at hchk
    exact⟨rfl,rfl,rfl,hchk.1,fun md l hl=>JZ hF hchk.1 hchk.2 hl⟩
   ·unfold uF at h
    split at h
    ·rename_i hfree
     simp only[iE,iR] at h
     obtain⟨rfl,rfl,rfl⟩:=h
     exact⟨rfl,rfl,rfl,hfree.1,fun md l hl=>J2 hfree.2 hfree.1 hl⟩
    ·cases h
  obtain⟨rfl,rfl,rfl,hchk,rM⟩:=hall
  have hany:∀t,∃md,kg md ops [] (Region.schedule (E.P.follows .mixedOrders) ops t):=fun t=>JB hE.mixed _ hchk t
  have hdo:∀t,opsL E S ops.toList σ.next (Region.schedule (E.P.follows .mixedOrders) ops t) fr {σ with next:=σ.next+ops.toList.length}=some (aF,σ1):=fun t=>by
   obtain⟨md,hl⟩:=hany t
   exact rM md _ hl
  have hnx:=rJ hS _ _ _ _ _ (hdo 0)
  simp only at hnx
  refine⟨Qw (QM _ _) hnx,fun ro B0 K w a n ds hs hok _=>?_⟩
  rw[hdr]
  refine wpIn_region_draw (fun t=>?_)
  obtain⟨md,hl⟩:=hany t
  have hst:=Step.same (new:=newer σ σ) hs.ok (w':={w with drawn:=w.drawn+1}) rfl rfl rfl rfl
  have hs1:St E B0 σ K {w with drawn:=w.drawn+1} fr a n ds:=⟨hst.ok,hs.hB,hs.fr.ext hst.ext,hs.sz,hs.df,hs.st,hs.hD⟩
  refine fin _ (hdo t) hl.nodup (fun i hi=>(hl.mem i hi).1) ro B0 K _ a n ds _ hs1 (by rw[hdr];exact hok) ?_
  rintro x a' w' ⟨h1,K',h2,h3⟩
  exact⟨h1,K',h2,hst.widen h3 (Qt _) (Qw (QM _ _) hnx)⟩
 ·rename_i hdr
  have hdr':dr=false:=by simpa using hdr
  simp only[Qu,iR] at h
  obtain⟨⟨aF,σ1⟩,hF,rfl,rfl,rfl⟩:=h
  rw[I7] at hF
  have hnx:=rJ hS _ _ _ _ _ hF
  simp only at hnx
  refine⟨Qw (QM _ _) hnx,fun ro B0 K w a n ds hs hok _=>?_⟩
  rw[hdr']
  exact wpIn_region (fin _ hF List.nodup_range (fun i hi=>by simpa using hi) ro B0 K w a n ds _ hs (by rw[hdr'];exact hok) (fun _ _ _ h=>h))
end
end Aq
end
section
namespace Aq
open Go Go.RowKit
section
variable {E:Env} {S:cK} {K K':aA} {w w':World} {σ σ':Sig} {B0:Nat}
theorem wC (K:aA) (T:Nat->Nat) (w:World) (D':Nat->Prop):Ext K T w {K with D:=D'} T w:=
 ⟨fun _ h=>⟨h,rfl,rfl,rfl⟩,fun _ _=>.inl ⟨rfl,rfl,rfl,rfl⟩,fun _ _ h=>⟨h,rfl⟩,fun _ h=>⟨h,rfl⟩⟩
theorem aB.rU (h:aB E B0 σ K w) (D':Nat->Prop) (hD:∀b,D' b->w.heap[b]? =some (.deferred (some []))):aB E B0 σ {K with D:=D'} w:=by
 have e:=wC K σ.top w D'
 refine⟨fun loc s ob hs=>?_,h.own,h.I,h.IM,fun l r hl=>?_,fun g cs hg=>(h.glob g cs hg).ext e,h.rb,hD⟩
 ·obtain⟨a1,a2,a3⟩:=h.obj loc s ob hs
  exact⟨a1,a2.ext e a1 (fun _=>rfl),a3⟩
 ·obtain⟨a1,a2⟩:=h.loop l r hl
  exact⟨a1,a2.ext e a1 rfl rfl⟩
theorem aB.rV (h:aB E B0 σ K w) (hB:B0<=w.heap.size) {new:Nat->Prop} {b:Nat} {o o':Obj} (hb0:B0<=b) (hb:w.heap[b]? =some o) (hc:∀vals t f,o≠ .cells vals t f) (hm:∀es aD,o≠ .map es aD)
 (J4:∀l r,σ'.loops l=some r->σ.loops l=some r/\K.lp l≠b) (h1:σ'.obj=σ.obj) (h2:σ'.top=σ.top) (D':Nat->Prop) (hD:∀x,D' x->K.D x/\x≠b) (J5:∀x,K.D x->D' x):
 Step E B0 new σ K w σ' {K with D:=D'} (w.putObj b o')/\aB E B0 σ' {K with D:=D'} (w.putObj b o'):=by
 have hlt:=lt_of_heap hb
 have ho:=vL w b o'
 have hcell:∀b' i v,w.cell? (at_ b' i)=some v->b'≠b:=fun b' i v hv e=>by
  subst e
  have:∃vals t f,o= .cells vals t f:=by
   simp only[World.cell?,hb] at hv
   cases o<;>simp at hv
   exact⟨_,_,_,rfl⟩
  obtain⟨vals,t,f,rfl⟩:=this
  exact hc _ _ _ rfl
 have e:Ext K σ.top w {K with D:=D'} σ'.top (w.putObj b o'):=by
  rw[h2]
  refine⟨fun _ h=>⟨h,rfl,rfl,rfl⟩,fun _ _=>.inl ⟨rfl,rfl,rfl,rfl⟩,fun b' i hi=>⟨hi,?_⟩,fun b' hi=>⟨hi,?_⟩⟩
  ·obtain⟨⟨v,hv⟩,_⟩:=h.I b' i hi
   exact cell_of_heap (ho.block b' (hcell b' i v hv) (lt_of_cell hv))
  ·obtain⟨⟨es,aD,hv⟩,_⟩:=h.IM b' hi
   exact ho.block b' (fH hv hb (fun e=>hm _ _ e.symm)) (lt_of_heap hv)
 have ok:aB E B0 σ' {K with D:=D'} (w.putObj b o'):=by
  refine h.upd (σ':=σ') ho e (fun _ _=>rfl) (fun r hr'=>⟨by simpa using hlt,hb0⟩) ?_ ?_ ?_ ?_ ?_ ?_
  ·intro loc s ob hs
   rw[h1] at hs
   refine .inl ⟨hs,fun cZ e'=>?_⟩
   obtain⟨_,a2,_⟩:=h.obj loc s ob hs
   cases ob with
   |cells cs=>
    obtain⟨_,vals,t,g1,_⟩:=a2.2 (by cases cs with|nil=>exact cZ.elim|cons _ _=>simp)
    rw[e',hb] at g1
    exact hc _ _ _ (QL g1)
   |map ks vs=>
    obtain⟨_,es,aD,g1,_⟩:=a2
    rw[e',hb] at g1
    exact hm _ _ (QL g1)
  ·intro s hs hlt'
   refine .inl ⟨hs,rfl,rfl,rfl,fun e'=>?_⟩
   obtain⟨_,⟨v,hv⟩,_⟩:=(h.own s hs hlt').2.2 (K.lo s) (Qt _) hlt'
   exact hcell _ _ _ hv e'
  ·intro b' i hi
   obtain⟨⟨v,hv⟩,_⟩:=h.I b' i hi
   exact .inl ⟨hi,hcell b' i v hv⟩
  ·intro b' hi
   obtain⟨⟨es,aD,hv⟩,_⟩:=h.IM b' hi
   exact .inl ⟨hi,fH hv hb (fun e=>hm _ _ e.symm)⟩
  ·intro l r hl
   exact .inl (J4 l r hl)
  ·intro b' hd
   exact .inl (hD b' hd)
 exact⟨⟨ok,e,ho.below hb0 hB,J5,fun _ h=>.inl h,fun _ _ h=>.inl h,fun _ h=>.inl h⟩,ok⟩
theorem Step.J6 (h:aB E B0 σ K w) (hB:B0<=w.heap.size) {new:Nat->Prop}:
 Step E B0 new σ K w σ {K with D:=fun b=>K.D b\/b=w.heap.size} (w.alloc (.deferred (some []))):=by
 have ho:=kT w (.deferred (some []))
 have e:Ext K σ.top w {K with D:=fun b=>K.D b\/b=w.heap.size} σ.top (w.alloc (.deferred (some []))):=by
  refine⟨fun _ h=>⟨h,rfl,rfl,rfl⟩,fun _ _=>.inl ⟨rfl,rfl,rfl,rfl⟩,fun b' i hi=>⟨hi,?_⟩,fun b' hi=>⟨hi,?_⟩⟩
  ·obtain⟨⟨v,hv⟩,_⟩:=h.I b' i hi
   rw[hv];exact qI hv
  ·obtain⟨⟨es,aD,hv⟩,_⟩:=h.IM b' hi
   exact heap_alloc_old (lt_of_heap hv)
 refine⟨?_,e,ho.below hB hB,fun _ h=>.inl h,fun _ h=>.inl h,fun _ _ h=>.inl h,fun _ h=>.inl h⟩
 refine h.upd (σ':=σ) ho e (fun _ _=>rfl) (fun r hr'=>⟨by simp,hB⟩) ?_ ?_ ?_ ?_ ?_ ?_
 ·intro loc s ob hs
  refine .inl ⟨hs,fun hr=>?_⟩
  have:=(h.rb _ _ ((h.obj _ _ _ hs).2.2 hr)).1
  omega
 ·intro s hs hlt'
  have:=(h.rb _ _ (h.own s hs hlt').2.1).1
  exact .inl ⟨hs,rfl,rfl,rfl,by omega⟩
 ·intro b' i hi
  obtain⟨⟨v,hv⟩,_⟩:=h.I b' i hi
  exact .inl ⟨hi,QW (lt_of_cell hv)⟩
 ·intro b' hi
  obtain⟨⟨es,aD,hv⟩,_⟩:=h.IM b' hi
  exact .inl ⟨hi,QW (lt_of_heap hv)⟩
 ·intro l r hl
  have:=(h.rb _ _ (h.loop l r hl).2.2.1).1
  exact .inl ⟨hl,by omega⟩
 ·intro b' hd
  rcases hd with hd|rfl
  ·exact .inl ⟨hd,QW (lt_of_heap (h.D b' hd))⟩
  ·exact .inr ⟨rfl,heap_alloc_new _ _⟩
def aA.mQ (K:aA) (st b:Nat):aA:=
 {K with A:=fun s=>K.A s\/s=st,lo:=upd K.lo st 0,hi:=upd K.hi st 0,lp:=upd K.lp st b,ρ:=upd K.ρ b (some (.loop st))}
theorem Step.J7 (h:aB E B0 σ K w) (hB:B0<=w.heap.size) (hst:¬K.A σ.next) {fr:Fr} {tmps:Array Value} {ps:List Nat} {aM body:Code} {fn:FuncId} {D:Nat} (hf:cO K σ.top w fr tmps)
 (hok1:bN tmps.size aM=true) (hok2:bN tmps.size body=true) (hps:∀p∈ps,p<tmps.size) (hn1:dL aM=true) (hn2:dL body=true):
 Step E B0 (· =σ.next) σ K w ({σ with next:=σ.next+1}.aY σ.next {st:=0,pend:=none,fr:=fr,ps:=ps,aM:=aM,body:=body}) (K.mQ σ.next w.heap.size)
  (w.alloc (.loop {state:=.ready,pending:=none,fn:=fn,tmps:=tmps,params:=ps.toArray,assign:=aM,body:=body,defers:=D})):=by
 generalize hrec:({state:=.ready,pending:=none,fn:=fn,tmps:=tmps,params:=ps.toArray,assign:=aM,body:=body,defers:=D}:Go.Loop)=rec
 have ho:=kT w (.loop rec)
 have hne:∀s,K.A s->s≠σ.next:=fun s hs e=>hst (e▸hs)
 have e:Ext K σ.top w (K.mQ σ.next w.heap.size) σ.top (w.alloc (.loop rec)):=by
  refine⟨fun s hs=>⟨.inl hs,rfl,upd_ne _ _ (hne s hs),rfl⟩,fun s hs=>.inl ⟨rfl,rfl,upd_ne _ _ (hne s hs),upd_ne _ _ (hne s hs)⟩,fun b' i hi=>⟨hi,?_⟩,fun b' hi=>⟨hi,?_⟩⟩
  ·obtain⟨⟨v,hv⟩,_⟩:=h.I b' i hi
   rw[hv];exact qI hv
  ·obtain⟨⟨es,aD,hv⟩,_⟩:=h.IM b' hi
   exact heap_alloc_old (lt_of_heap hv)
 refine⟨?_,e,ho.below hB hB,fun _ h=>h,fun _ h=>h,fun _ _ h=>.inl h,fun _ h=>.inl h⟩
 refine h.upd (σ':=({σ with next:=σ.next+1}.aY σ.next {st:=0,pend:=none,fr:=fr,ps:=ps,aM:=aM,body:=body})) ho e (fun k hk=>upd_ne _ _ hk) (fun r hr'=>⟨by simp,hB⟩) ?_ ?_ ?_ ?_ ?_ ?_
 ·intro loc s ob hs
  have hs':σ.obj loc=some (s,ob):=hs
  refine .inl ⟨hs',fun hr=>?_⟩
  have:=(h.rb _ _ ((h.obj _ _ _ hs').2.2 hr)).1
  omega
 ·intro s hs hlt'
  have hs':s≠σ.next:=by
   rintro rfl
   simp only[aA.mQ,upd_same] at hlt'
   omega
  have hA:K.A s:=hs.resolve_right hs'
  simp only[aA.mQ,upd_ne _ _ hs'] at hlt'
  have:=(h.rb _ _ (h.own s hA hlt').2.1).1
  exact .inl ⟨hA,upd_ne _ _ hs',upd_ne _ _ hs',rfl,by omega⟩
 ·intro b' i hi
  obtain⟨⟨v,hv⟩,_⟩:=h.I b' i hi
  exact .inl ⟨hi,QW (lt_of_cell hv)⟩
 ·intro b' hi
  obtain⟨⟨es,aD,hv⟩,_⟩:=h.IM b' hi
  exact .inl ⟨hi,QW (lt_of_heap hv)⟩
 ·intro l r hl
  by_cases hll:l=σ.next
  ·subst hll
   right
   have hr:r={st:=0,pend:=none,fr:=fr,ps:=ps,aM:=aM,body:=body}:=by
    simpa [Sig.aY,upd] using hl.symm
   subst hr
   have hlp:(K.mQ σ.next w.heap.size).lp σ.next=w.heap.size:=upd_same _ _ _
   refine⟨.inr rfl,by rw[hlp];exact hB,by rw[hlp];exact upd_same _ _ _,fn,tmps,D,?_,hf.ext e,hok1,hok2,hps,hn1,hn2⟩
   rw[hlp,heap_alloc_new,<-hrec];rfl
  ·left
   have hl1:σ.loops l=some r:=by simpa [Sig.aY,upd,hll] using hl
   have:=(h.rb _ _ (h.loop l r hl1).2.2.1).1
   exact⟨hl1,by omega⟩
 ·intro b' hd
  exact .inl ⟨hd,QW (lt_of_heap (h.D b' hd))⟩
theorem J8 (hE:EnvOK E) (hS:Sound E S) {f:Operand} {ps:Array Tmp} {aM body:Code} {fr fr':Fr} {e:Ex} (h:aL E S (.rangeFunc f ps aM body) fr σ=some (e,fr',σ')):dW E (.rangeFunc f ps aM body) fr σ e fr' σ':=by
 simp only[aL] at h
 split at h
 ·rename_i hfun
  simp only[mF] at h
  obtain⟨⟨v,σ3⟩,happ,r,hr,h⟩:=h
  split at h
  ·simp at h
  ·rename_i hst
   simp only[iE,iR] at h
   obtain⟨he,rfl,rfl⟩:=h
   have hfn:∃g a b,fr.ev E f= .fn (.func g) a b:=by
    generalize fr.ev E f=x at hfun
    unfold uG at hfun
    split at hfun
    ·exact⟨_,_,_,rfl⟩
    ·simp at hfun
   have hnext:σ.next+1<=σ3.next:=by
    obtain⟨g,a,b,hg⟩:=hfn
    rw[hg] at happ
    unfold bS at happ
    dsimp only at happ
    split at happ
    ·obtain⟨⟨v0,σ4⟩,happ,ji⟩:=Qu.1 happ
     have:=(hS.call _ _ _ _ _ _ happ).1
     have e3:(bA (Option.map (fun t=>(fr.d,t)) none) σ4 v0).2=σ3:=congrArg Prod.snd ji
     rw[<-e3,lg];exact this
    ·simp only[mF] at happ
     obtain⟨_,_,_,_,happ⟩:=happ
     split at happ
     ·simp only[iE,iR] at happ
      rw[<-happ.2];exact Qt _
     ·simp at happ
   refine⟨Qw (QD _) hnext,fun ro B0 K w a n ds hs hok hnr=>?_⟩
   have hro:ro=none/\ds.nm=false:=by
    rcases hnr with h|h
    ·exact h
    ·simp[dL] at h
   obtain⟨hro,hnm⟩:=hro
   subst hro
   simp only[bN,iP,QK,decide_eq_true_eq] at hok
   obtain⟨⟨⟨⟨hps,hok1⟩,hok2⟩,hn1⟩,hn2⟩:=hok
   refine wpIn_rangeFunc (fun fn _=>?_)
   have st1:=Step.J6 (new:=newer σ (σ3.dR σ.next)) hs.ok hs.hB
   have hB1:=Qw hs.hB st1.below.size
   have hst:¬K.A σ.next:=fun hA=>Nat.lt_irrefl _ (hs.st _ hA)
   have hf1:cO {K with D:=fun b=>K.D b\/b=w.heap.size} σ.top (w.alloc (.deferred (some []))) fr a.tmps:=hs.fr.ext st1.ext
   have st2:=Step.J7 (fn:=fn) (D:=w.heap.size) (ps:=ps.toList) (aM:=aM) (body:=body) st1.ok hB1 hst hf1 (by rw[hs.sz];exact hok1) (by rw[hs.sz];exact hok2) (fun p hp=>by rw[hs.sz];exact hps p hp) hn1 hn2
   have hsz1:(w.alloc (.deferred (some []))).heap.size=w.heap.size+1:=by simp
   generalize hK2:aA.mQ {K with D:=fun b=>K.D b\/b=w.heap.size} σ.next (w.alloc (.deferred (some []))).heap.size=K2 at st2
   generalize hw2:(w.alloc (.deferred (some []))).alloc (.loop {state:=.ready,pending:=none,fn:=fn,tmps:=a.tmps,params:=ps.toList.toArray,assign:=aM,body:=body,defers:=w.heap.size})=w2 at st2
   have BD:K2.lp σ.next=w.heap.size+1:=by rw[<-hK2,<-hsz1];exact upd_same _ _ _
   have hA2:K2.A σ.next:=by rw[<-hK2];exact .inr rfl
   have hf2:cO K2 σ.top w2 fr a.tmps:=hf1.ext st2.ext
   have J9:∀s,K2.A s->s<σ.next+1:=fun s hsA=>by
    rcases st2.A s hsA with h1|h1
    ·exact Nat.lt_succ_of_lt (hs.st s h1)
    ·omega
   have hB2:=Qw hB1 st2.below.size
   have hra:RelA K2 σ.top w2 [.fn (.yield σ.next) [] []] #[.func (.yield (w.heap.size+1)) #[] #[]]:=by
    refine⟨rfl,fun i hi=>?_⟩
    have hi0:i=0:=by simpa using hi
    subst hi0
    have:=Rel.yield (K:=K2) (T:=σ.top) (w:=w2) σ.next hA2
    rw[BD] at this
    exact this
   obtain⟨_,g,first,cap,hcf,hbody,hcall⟩:=A9 hE hS.call st2.ok hB2 J9 hfn happ (jW st2.ok hf2 f) hra
   have henter:=run_enterLoop_outer (P:=E.P) (w:=w) fn a.tmps ps aM body
   have Ka:(w.alloc (.deferred (some []))).alloc (.loop {state:=.ready,pending:=none,fn:=fn,tmps:=a.tmps,params:=ps,assign:=aM,body:=body,defers:=w.heap.size})=w2:=by
    rw[<-hw2]
   rw[Ka] at henter
   refine⟨w.heap.size+1,[mark w.heap.size],w2,{target:=.fn (.func g) cap,args:=first++ #[.func (.yield (w.heap.size+1)) #[] #[]]},w2,g,first++ #[.func (.yield (w.heap.size+1)) #[] #[]]++cap,w2,henter,?_,fun _ _=>trivial,?_,
    fun hd=>by simp[FW,Fence.wide] at hd,?_⟩
   ·unfold resolve
    have hargs:(rangeCall f (w.heap.size+1)).args.map a.eval= #[.func (.yield (w.heap.size+1)) #[] #[]]:=by simp[rangeCall,Act.eval]
    rw[hargs]
    simp only[rangeCall,hcf,Deferred.ofValue,Sem.run_pure]
   ·simp only[invoke]
    exact vR hE hbody _ _
   ·have Kc:CallsIn (FW none) (0-1) E.P g (first++ #[.func (.yield (w.heap.size+1)) #[] #[]]++cap) w2 _:=hcall
    refine Kc.mono ?_
    intro en w3 hp
    cases en with
    |panicked ch=>exact hp.elim
    |outgrown=>exact hp.elim
    |returned cv=>
     obtain⟨K3,r3,rW,hA3,st3⟩:=hp
     obtain⟨Ql,hb3,Ke,Kg,Kh,D3,hh3,hf3,_⟩:=rW.loop σ.next r hr
     have mK:K3.lp σ.next=w.heap.size+1:=((st3.ext.A σ.next hA2).2.2.1).trans BD
     have hend:=run_endLoop (P:=E.P) hh3 (by
      show fU r.st≠ .busy
      unfold fU
      split
      ·simp
      ·simp[hst])
     rw[mK] at hend
     have hB3:=Qw hB2 st3.below.size
     have hput:=aB.rV (σ':=σ3.dR σ.next) (new:=newer σ (σ3.dR σ.next)) (o':=.loop {state:=.exhausted,pending:=r.pend.bind gT,fn:=Kg,tmps:=Kh,params:=r.ps.toArray,assign:=r.aM,body:=r.body,defers:=D3}) rW hB3 hb3 hh3 (fun _ _ _=>by simp) (fun _ _=>by simp)
      (fun l r1 hl=>by
        have hll:l≠σ.next:=by
         rintro rfl
         simp[Sig.dR,upd] at hl
        have hl1:σ3.loops l=some r1:=by simpa [Sig.dR,upd,hll] using hl
        refine⟨hl1,fun e'=>?_⟩
        have:=(rW.loop l r1 hl1).2.2.1
        rw[e',Ke] at this
        cases this
        exact hll rfl) rfl rfl K3.D (fun x hx=>⟨hx,fH (rW.D x hx) hh3 (by simp)⟩) (fun _ h=>h)
     have wD:({K3 with D:=K3.D}:aA)=K3:=rfl
     rw[wD] at hput
     obtain⟨mR,rX⟩:=hput
     rw[mK] at mR rX
     have Ki:(σ3.dR σ.next).next=σ3.next:=rfl
     have gu:=Step.trans (new:=newer σ (σ3.dR σ.next)) st1 ((st2.mono (fun s hs'=>by subst hs';exact⟨Qt _,by rw[Ki];omega⟩)).trans ((st3.mono (fun s hs'=>by
      have h1:σ.next+1<=s:=hs'.1
      exact⟨by omega,hs'.2⟩)).trans mR))
     have mk:∀w4,aB E B0 (σ3.dR σ.next) K3 w4->Step E B0 (newer σ (σ3.dR σ.next)) σ K w (σ3.dR σ.next) K3 w4->St E B0 (σ3.dR σ.next) K3 w4 fr {a with defers:=[mark w.heap.size]++a.defers} n ds:=by
      intro w4 rX gu
      refine⟨rX,Qw hs.hB gu.below.size,hs.fr.ext gu.ext,hs.sz,?_,hA3,Qw hs.hD gu.below.size⟩
      obtain⟨bs,d1,d2,d3,_⟩:=hs.df
      refine⟨w.heap.size::bs,by simp[d1],?_,fun b hb=>?_,fun e=>by rw[hnm] at e;cases e⟩
      ·refine Rw.2 ⟨fun hm=>?_,d2⟩
       exact Nat.lt_irrefl _ (lt_of_heap (hs.ok.D _ (d3 _ hm).1))
      ·rcases QN.1 hb with rfl|hb
       ·exact⟨st3.D _ (st2.D _ (.inr rfl)),hs.hD⟩
       ·exact⟨gu.D b (d3 b hb).1,(d3 b hb).2⟩
     have hSt:=mk _ rX gu
     refine⟨_,_,hend,?_⟩
     cases hp:r.pend with
     |none=>
      rw[hp] at he hSt gu
      simp only[Option.bind_none]
      subst he
      exact⟨trivial,K3,hSt,gu⟩
     |some e1=>
      rw[hp] at he hSt gu
      simp only at he
      subst he
      cases e1 with
      |normal=>exact⟨trivial,K3,hSt,gu⟩
      |exit i=>exact wpIn_exit ⟨rfl,K3,hSt,gu⟩
      |ret=>exact wpIn_ret ⟨trivial,K3,hSt,gu⟩
 ·simp at h
end
end Aq
end
section
namespace Aq
open Go Go.RowKit
theorem exists_least {p:Nat->Prop} (h:∃n,p n):∃n,p n/\∀m,p m->n<=m:=by
 obtain⟨n,hn⟩:=h
 induction n using Nat.strongRecOn with
 |_ n ih=>
  by_cases hm:∃m,m<n/\p m
  ·obtain⟨m,hm1,hm2⟩:=hm
   exact ih m hm1 hm2
  ·exact⟨n,hn,fun m hm'=>Classical.byContradiction fun hlt=>hm ⟨m,by omega,hm'⟩⟩
open Classical in
noncomputable def least (p:Nat->Prop):Nat:=if h:∃n,p n then (exists_least h).choose else 0
theorem BF {p:Nat->Prop} (h:∃n,p n):p (least p)/\∀m,p m->least p<=m:=by
 unfold least
 rw[dif_pos h]
 exact(exists_least h).choose_spec
theorem Kj {F:Fence} {rm:Nat} {P:Program} {Q:Exit->Act->World->Prop} {a:Act} {w:World} {c:Code} (I:Nat->Act->World->Prop) (n₀:Nat) (h₀:I n₀ a w)
 (round:∀n a w,I n a w->c.wpIn F rm P (Exit.then (fun a' w'=>∃n',n'<n/\I n' a' w') Q) a w):(Code.loop c).wpIn F rm P Q a w:=by
 refine wpIn_loop (fun a w=>∃n,I n a w) (fun a w=>least (fun n=>I n a w)) ⟨n₀,h₀⟩ ?_
 intro a w hI
 refine wpIn_mono (round _ a w (BF hI).1) ?_
 intro e a' w' hq
 cases e with
 |normal=>
  obtain⟨n',hlt,hI'⟩:=hq
  exact show (∃n,I n a' w')/\least (fun n=>I n a' w')<least (fun n=>I n a w) from ⟨⟨n',hI'⟩,Nat.lt_of_le_of_lt ((BF ⟨n',hI'⟩).2 n' hI') hlt⟩
 |exit id=>exact hq
 |goto l=>exact hq
 |ret=>exact hq
 |panic ch=>exact hq
 |outgrown=>exact hq
section
variable {E:Env}
def BG (E:Env) (code:Code->Fr->Sig->Option (Ex×Fr×Sig)) (c:Code):Prop:=∀fr σ e fr' σ',code c fr σ=some (e,fr',σ')->dW E c fr σ e fr' σ'
theorem Kk (hE:EnvOK E) (n:Nat) (hS:∀m,m<=n->Sound E (evl E m)):∀c,BG E (aL E (evl E n)) c:=by
 intro c
 induction c with
 |skip=>
  intro fr σ e fr' σ' h
  simp only[aL,iE,iR] at h
  obtain⟨rfl,rfl,rfl⟩:=h
  exact Hy
 |region id ops dr=>
  intro fr σ e fr' σ' h
  exact J3 hE (hS n (Qt _)) h
 |seq x y pz ihy=>
  intro fr σ e fr' σ' h
  simp only[aL,mF] at h
  obtain⟨⟨e1,aF,σ1⟩,h1,h⟩:=h
  cases e1 with
  |normal=>exact H6 (pz _ _ _ _ _ h1) (ihy _ _ _ _ _ h)
  |exit i=>
   simp only[iE,iR] at h
   obtain⟨rfl,rfl,rfl⟩:=h
   exact Aw (by simp) (pz _ _ _ _ _ h1)
  |ret=>
   simp only[iE,iR] at h
   obtain⟨rfl,rfl,rfl⟩:=h
   exact Aw (by simp) (pz _ _ _ _ _ h1)
 |cond c x y pz ihy=>
  intro fr σ e fr' σ' h
  simp only[aL,mF] at h
  obtain⟨t,ht,h⟩:=h
  refine H7 ht ?_
  cases t
  ·exact ihy _ _ _ _ _ (by simpa using h)
  ·exact pz _ _ _ _ _ (by simpa using h)
 |block id c ih=>
  intro fr σ e fr' σ' h
  simp only[aL,Qu] at h
  obtain⟨⟨e1,aF,σ1⟩,h1,h⟩:=h
  have:=H9 (id:=id) (ih _ _ _ _ _ h1)
  cases e1 with
  |normal=>
   simp only[iR] at h
   obtain⟨rfl,rfl,rfl⟩:=h
   exact this
  |ret=>
   simp only[iR] at h
   obtain⟨rfl,rfl,rfl⟩:=h
   exact this
  |exit i=>
   simp only[vG] at this
   simp only at h
   split at h
   ·rename_i hi
    simp only[iR] at h
    obtain⟨rfl,rfl,rfl⟩:=h
    rwa[if_pos hi] at this
   ·rename_i hi
    simp only[iR] at h
    obtain⟨rfl,rfl,rfl⟩:=h
    rwa[if_neg hi] at this
 |loop c ih=>
  intro fr σ e fr' σ' h
  have hm:(evl E (n+1)).code (.loop c) fr σ=some (e,fr',σ'):=h
  have hbody:∀k,k<=n->BG E (aL E (evl E k)) c:=by
   intro k hk
   by_cases hkn:k=n
   ·subst hkn;exact ih
   ·intro fr σ e fr' σ' hc
    exact(hS (k+1) (by omega)).code c fr σ e fr' σ' hc
  have hnext:∀(k:Nat) (fr:Fr) (σ:Sig),k<=n+1->(evl E k).code (.loop c) fr σ=some (e,fr',σ')->σ.next<=σ'.next:=by
   intro k
   induction k with
   |zero=>intro fr σ _ hh;cases hh
   |succ k ihk=>
    intro fr σ hk hh
    have hh':aL E (evl E k) (.loop c) fr σ=some (e,fr',σ'):=hh
    simp only[aL,mF] at hh'
    obtain⟨⟨e1,aF,σ1⟩,h1,h2⟩:=hh'
    have hb:=(hbody k (by omega) _ _ _ _ _ h1).1
    cases e1 with
    |normal=>exact Qw hb (ihk aF σ1 (by omega) h2)
    |exit i=>simp only[iE,iR] at h2;obtain⟨_,_,rfl⟩:=h2;exact hb
    |ret=>simp only[iE,iR] at h2;obtain⟨_,_,rfl⟩:=h2;exact hb
  refine⟨hnext (n+1) fr σ (Qt _) hm,fun ro B0 K w a sz ds hs hok hnr=>?_⟩
  refine Kj (fun m a1 w1=>m<=n+1/\∃aF σ1 K1,(evl E m).code (.loop c) aF σ1=some (e,fr',σ')/\St E B0 σ1 K1 w1 aF a1 sz ds/\Step E B0 (newer σ σ1) σ K w σ1 K1 w1/\σ.next<=σ1.next) (n+1)
   ⟨Qt _,fr,σ,K,hm,hs,.refl hs.ok,Qt _⟩ ?_
  rintro m a1 w1 ⟨hmn,aF,σ1,K1,hcode,hs1,st1,hle1⟩
  cases m with
  |zero=>cases hcode
  |succ k=>
   have hh':aL E (evl E k) (.loop c) aF σ1=some (e,fr',σ'):=hcode
   simp only[aL,mF] at hh'
   obtain⟨⟨e2,aZ,σ2⟩,h1,h2⟩:=hh'
   obtain⟨hle2,hwp⟩:=hbody k (by omega) _ _ _ _ _ h1
   refine wpIn_mono (hwp ro B0 K1 w1 a1 sz ds hs1 hok hnr) ?_
   rintro x a2 w2 ⟨hx,K2,hs2,st2⟩
   cases e2 with
   |normal=>
    cases x<;>simp only[fI] at hx
    exact⟨k,Ry k,by omega,aZ,σ2,K2,h2,hs2,st1.widen st2 hle1 hle2,Qw hle1 hle2⟩
   |exit i=>
    simp only[iE,iR] at h2
    obtain⟨rfl,rfl,rfl⟩:=h2
    cases x<;>simp only[fI] at hx
    exact⟨hx,K2,hs2,st1.widen st2 hle1 hle2⟩
   |ret=>
    simp only[iE,iR] at h2
    obtain⟨rfl,rfl,rfl⟩:=h2
    cases x<;>simp only[fI] at hx
    exact⟨trivial,K2,hs2,st1.widen st2 hle1 hle2⟩
 |rangeFunc f ps x y=>intro fr σ e fr' σ' h;exact J8 hE (hS n (Qt _)) h
 |exit id=>
  intro fr σ e fr' σ' h
  simp only[aL,iE,iR] at h
  obtain⟨rfl,rfl,rfl⟩:=h
  exact Hz id
 |scope c ih=>
  intro fr σ e fr' σ' h
  simp only[aL] at h
  exact HZ (ih _ _ _ _ _ h)
 |label l=>
  intro fr σ e fr' σ' h
  simp only[aL,iE,iR] at h
  obtain⟨rfl,rfl,rfl⟩:=h
  exact HY l
 |goto l=>intro fr σ e fr' σ' h;simp[aL] at h
 |ret=>
  intro fr σ e fr' σ' h
  simp only[aL,iE,iR] at h
  obtain⟨rfl,rfl,rfl⟩:=h
  exact HV
 |refuse why=>intro fr σ e fr' σ' h;simp[aL] at h
variable {B0:Nat} {σ:Sig} {K:aA} {w:World} {fr:Fr}
def rY (tmps:Array Value):ResultVar->Sem Value
 |.tmp t=>pure (tmps.getD t undef)
 |.cell a t=>do loadVar t (<-asAddr (tmps.getD a undef))
theorem Kl (h:aB E B0 σ K w) {tmps:Array Value} (hf:cO K σ.top w fr tmps) {r:ResultVar} {v:V} (hv:resV E fr σ r=some v):
 ∃c,(rY tmps r).run E.P w= .ok c w/\Rel K σ.top w v c:=by
 cases r with
 |tmp t=>
  simp only[resV,iE] at hv
  subst hv
  exact⟨_,rfl,hf t⟩
 |cell a t=>
  simp only[resV] at hv
  have ha:=hf a
  cases hx:fr.tm a with
  |ref loc s off=>
   rw[hx] at hv ha
   simp only at hv
   obtain⟨c,h1,h2⟩:=uX h (t:=t) ha (v:=v) hv
   simp only[rY]
   generalize tmps.getD a undef=ca at h1 ha
   cases ha with
   |ref _ _ _ hA=>
    refine⟨c,?_,h2⟩
    simpa [Instr.loadAt,Instr.sureAddr,asAddr] using h1
  |_=>rw[hx] at hv;simp at hv
theorem Km (h:aB E B0 σ K w) {tmps:Array Value} (hf:cO K σ.top w fr tmps):∀(rs:List ResultVar) (vs:List V),rs.mapM (resV E fr σ)=some vs->
 ∃cs:List Value,(rs.mapM (rY tmps)).run E.P w= .ok cs w/\vs.length=cs.length/\
  ∀i,i<vs.length->Rel K σ.top w (vs.getD i undefV) (cs.getD i undef):=by
 intro rs
 induction rs with
 |nil=>intro vs hv;simp at hv;subst hv;exact⟨[],by simp,rfl,fun i hi=>absurd hi (Qx i)⟩
 |cons r rs ih=>
  intro vs hv
  simp only[QH,Option.pure_def,Option.bind_eq_bind,mF,iE] at hv
  obtain⟨v,h1,vs',h2,rfl⟩:=hv
  obtain⟨c,g1,g2⟩:=Kl h hf h1
  obtain⟨cs,k1,k2,k3⟩:=ih vs' h2
  refine⟨c::cs,?_,by simp[k2],fun i hi=>?_⟩
  ·simp only[QH,Sem.run_bind,g1,Result.andThen_ok,k1,Sem.run_pure]
  ·cases i with
   |zero=>exact g2
   |succ i=>exact k3 i (by simpa using hi)
theorem Kn {fn:Func} {tmps:Array Value} {R:Ending->World->Prop} {B1:Nat} (hB1:B0<=B1) (KD:Nat->Prop):∀(bs:List Nat) (K:aA) (w:World),aB E B0 σ K w->B0<=w.heap.size->bs.Nodup->(∀b∈bs,K.D b/\B1<=b)->(∀b,KD b->K.D b)->(∀b,KD b->b<B1)->
 (∀w1,Step E B0 (fun _=>False) σ {K with D:=KD} w σ {K with D:=KD} w1->LeavesIn Fence.wide 0 E.P fn tmps R [] .returning w1)->LeavesInM Fence.wide 0 E.P fn tmps R (bs.map mark) .returning w:=by
 intro bs
 induction bs with
 |nil=>
  intro K w h _ _ _ hk _ hl
  refine hl w (.refl (h.rU KD (fun b hb=>h.D b (hk b hb))))
 |cons b bs ih=>
  intro K w h hB hnd hbs hk hlt hl
  obtain⟨hb,wE⟩:=hbs b (by simp)
  have hheap:=h.D b hb
  have hput:=aB.rV (σ':=σ) (new:=fun _=>False) (o':=.deferred none) h hB (Qw hB1 wE) hheap (fun _ _ _=>by simp) (fun _ _=>by simp)
   (fun l r hl=>by
     obtain⟨_,_,_,_,_,_,hh,_⟩:=h.loop l r hl
     exact⟨hl,fH hh hheap (by simp)⟩) rfl rfl
  have ok1:aB E B0 σ {K with D:=fun x=>K.D x/\x≠b} (w.putObj b (.deferred none)):=by
   have ho:=vL w b (.deferred none)
   have h0:aB E B0 σ {K with D:=fun _=>False} w:=h.rU _ (fun b hb=>hb.elim)
   have hp:=(aB.rV (σ':=σ) (new:=fun _=>False) (o':=.deferred none) h0 hB (Qw hB1 wE) hheap (fun _ _ _=>by simp) (fun _ _=>by simp)
    (fun l r hl=>by
      obtain⟨_,_,_,_,_,_,hh,_⟩:=h.loop l r hl
      exact⟨hl,fH hh hheap (by simp)⟩) rfl rfl (fun _=>False) (fun x hx=>hx.elim) (fun _ h=>h)).2
   exact hp.rU (fun x=>K.D x/\x≠b) (fun x hx=>by
    rw[World.putObj_heap_other hx.2];exact h.D x hx.1)
  refine⟨by simp,.inl ⟨b,w.putObj b (.deferred none),rfl,run_takeDeferred hheap,?_⟩⟩
  refine ih {K with D:=fun x=>K.D x/\x≠b} (w.putObj b (.deferred none)) ok1 (by simpa using hB) (Rw.1 hnd).2
   (fun x hx=>⟨⟨(hbs x (by simp[hx])).1,fun e=>(Rw.1 hnd).1 (e▸hx)⟩,(hbs x (by simp[hx])).2⟩) (fun x hx=>⟨hk x hx,fun e=>by have:=hlt x hx;omega⟩) hlt (fun w1 st=>hl w1 ?_)
  have wD:aB E B0 σ {K with D:=KD} w:=h.rU KD (fun b hb=>h.D b (hk b hb))
  have st0:=(aB.rV (σ':=σ) (new:=fun _=>False) (o':=.deferred none) wD hB (Qw hB1 wE) hheap (fun _ _ _=>by simp) (fun _ _=>by simp)
   (fun l r hl=>by
     obtain⟨_,_,_,_,_,_,hh,_⟩:=h.loop l r hl
     exact⟨hl,fH hh hheap (by simp)⟩) rfl rfl KD (fun x hx=>⟨hx,fun e=>by have h1:x<B1:=hlt x hx;omega⟩) (fun _ h=>h)).1
  exact st0.trans st
theorem Ko (n:Nat) (hS:qZ E (evl E n).code):oL E (jT E (evl E n)):=by
 intro f args d σ v σ' h
 simp only[jT,mF] at h
 obtain⟨fn,hfn,c,hc,h⟩:=h
 split at h
 ·rename_i hok
  simp only[mF] at h
  obtain⟨⟨e,aF,σ1⟩,hcode,h⟩:=h
  have hne:e= .normal\/e= .ret:=by
   cases e with
   |normal=>exact .inl rfl
   |ret=>exact .inr rfl
   |exit i=>simp at h
  have h':(fn.results.toList.mapM (resV E aF σ1)).map (fun vs=>(match vs with| [v]=>v|vs=>.tup vs,σ1))=some (v,σ'):=by
   rcases hne with rfl|rfl<;>exact h
  simp only[Qu,iR] at h'
  obtain⟨vs,hvs,hv,rfl⟩:=h'
  obtain⟨hle,hwp⟩:=hS _ _ _ _ _ _ hcode
  refine⟨hle,⟨fn,c,hfn,hc⟩,fun ro B0 K w cargs hs hB hA hr=>?_⟩
  have hsz:cargs.size=args.length:=hr.1.symm
  have hst:St E B0 σ K w {d:=d,om:=E.om f,tm:=fun i=>args.getD i undefV} {tmps:=cargs++Array.replicate (fn.ntmps-cargs.size) undef,defers:=[]} fn.ntmps ⟨[],w.heap.size,false⟩:=by
   refine⟨hs,hB,fun t=>?_,by simp;omega,⟨[],rfl,List.nodup_nil,(fun b hb=>by cases hb),fun _=>rfl⟩,hA,Qt _⟩
   show Rel K σ.top w (args.getD t undefV) _
   by_cases ht:t<args.length
   ·have e1:(cargs++Array.replicate (fn.ntmps-cargs.size) undef).getD t undef=cargs.getD t undef:=by
     simp only[RH]
     rw[Array.getElem?_append_left (by omega)]
    rw[e1];exact hr.2 t ht
   ·have e1:(cargs++Array.replicate (fn.ntmps-cargs.size) undef).getD t undef=undef:=by
     simp only[RH]
     rw[Array.getElem?_append_right (by omega),Array.getElem?_replicate]
     split<;>rfl
    have e2:args.getD t undefV=undefV:=by simp[List.getD,List.getElem?_eq_none (Nat.le_of_not_lt ht)]
    rw[e1,e2];exact .undef _ _ _
  have hwp':=hwp none B0 K w _ fn.ntmps ⟨[],w.heap.size,false⟩ hst hok.2 (.inl ⟨rfl,rfl⟩)
  have Kq:CallsIn Fence.wide 0 E.P f cargs w (jZ E B0 σ K w v σ1):=by
   refine callsIn_of_wp_marks hfn hc trivial (wpIn_mono hwp' ?_)
   rintro x a' w' ⟨hx,K',hs',st'⟩
   have hleave:LeavesInM Fence.wide 0 E.P fn a'.tmps (jZ E B0 σ K w v σ1) a'.defers .returning w':=by
    obtain⟨bs,d1,d2,d3,_⟩:=hs'.df
    rw[d1,QX]
    refine Kn (B1:=w.heap.size) hB K.D bs K' w' hs'.ok hs'.hB d2 d3 st'.D (fun b hb=>lt_of_heap (hs.D b hb)) (fun w1 rZ=>?_)
    have wF:=rZ.ok
    have hf2:cO {K' with D:=K.D} σ1.top w1 aF a'.tmps:=by
     have e1:Ext K' σ1.top w' {K' with D:=K.D} σ1.top w1:=(wC K' σ1.top w' K.D).trans rZ.ext
     exact hs'.fr.ext e1
    obtain⟨cs,k1,k2,k3⟩:=Km wF hf2 fn.results.toList vs hvs
    have hrun:(results fn a'.tmps).run E.P w1= .ok (if h:cs.toArray.size=1 then cs.toArray[0] else .tuple cs.toArray) w1:=by
     have hres:results fn a'.tmps=(do let vs<-fn.results.mapM (rY a'.tmps);pure (if h:vs.size=1 then vs[0] else .tuple vs)):=rfl
     rw[hres,Array.mapM_eq_mapM_toList]
     simp only[Sem.run_bind,Sem.run_map,k1,Result.andThen_ok,Sem.run_pure]
    have rF:Step E B0 (newer σ σ1) σ K w σ1 {K' with D:=K.D} w1:=
     ⟨wF,st'.ext.trans ((wC K' σ1.top w' K.D).trans rZ.ext),st'.below.trans rZ.below,fun _ h=>h,st'.A,st'.nI,st'.jU⟩
    refine⟨_,hrun,{K' with D:=K.D},?_,wF,hs'.st,rF⟩
    rw[<-hv]
    cases vs with
    |nil=>
     have:cs=[]:=by simpa using k2.symm
     subst this
     exact .tup [] #[] rfl (fun i hi=>absurd hi (Qx i))
    |cons v1 vs=>
     cases cs with
     |nil=>simp at k2
     |cons c1 cs=>
      cases vs with
      |nil=>
       have:cs=[]:=by simpa using k2.symm
       subst this
       have:=k3 0 (by simp)
       simpa using this
      |cons v2 vs=>
       have hsz2:¬((c1::cs).toArray.size=1):=by
        simp only[List.length_cons,Nat.add_right_cancel_iff] at k2
        rw[List.size_toArray,List.length_cons]
        omega
       rw[dif_neg hsz2]
       refine .tup _ _ (by simpa using k2) (fun i hi=>?_)
       have:=k3 i hi
       simpa [RH,List.getD] using this
   rcases hne with rfl|rfl<;>cases x<;>simp only[fI] at hx<;>exact hleave
  exact Kq
 ·simp at h
theorem evl_sound (hE:EnvOK E):∀n,Sound E (evl E n):=by
 have all:∀n m,m<=n->Sound E (evl E m):=by
  intro n
  induction n with
  |zero=>
   intro m hm
   obtain rfl:m=0:=by omega
   exact⟨(fun _ _ _ _ _ _ h=>by cases h),(fun _ _ _ _ _ _ h=>by cases h)⟩
  |succ n ih=>
   intro m hm
   by_cases hmn:m<=n
   ·exact ih m hmn
   ·obtain rfl:m=n+1:=by omega
    exact⟨fun c fr σ e fr' σ' h=>Kk hE n ih c fr σ e fr' σ' h,Ko n (ih n (Qt _)).code⟩
 exact fun n=>all n n (Qt _)
theorem Kr (hE:EnvOK E) {n:Nat} {f:FuncId} {args:List V} {v:V} (h:callPure E (evl E n) f args=some v):PureOK E f args v:=callPure_sound hE (evl_sound hE n).call h
end
end Aq
end
