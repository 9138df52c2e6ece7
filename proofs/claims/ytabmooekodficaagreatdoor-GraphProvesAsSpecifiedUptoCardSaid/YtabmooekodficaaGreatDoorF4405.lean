import Derived.Test.YtabmooekodficaaGreatDoorF4404
set_option linter.all false
section
namespace Aq
open Go
theorem Lj {α:Type} {p q:α->Bool} {a:α}:∀{l:List α},(∀x,q x=true->p x=true)->a∈l->p a=true->q a=false->l.countP q<l.countP p
 | [],_,h,_,_=>by cases h
 |x::l,FD,hm,hp,hq=>by
  rw[List.countP_cons,List.countP_cons]
  have hle:l.countP q<=l.countP p:=List.countP_mono_left (fun x _ h=>FD x h)
  rcases aeQ.1 hm with e|e
  ·subst e
   simp only[hp,hq,if_true]
   have:(if false=true then 1 else 0)=0:=rfl
   omega
  ·have:=Lj FD e hp hq
   by_cases hx:q x=true
   ·have:=FD x hx
    simp only[hx,this,if_true];omega
   ·have hx':q x=false:=by simpa using hx
    rw[hx']
    have h0:(if false=true then 1 else 0:Nat)=0:=rfl
    rw[h0]
    omega
structure nR (md:Region.Mode) (ops:Array Oper) (done l:List Nat):Prop where
 nodup:l.Nodup
 mem:∀i∈l,i<ops.size/\i∉done
 all:∀i,i<ops.size->i∈done\/i∈l
 ord:∀l1 i l2,l=l1++i::l2->∀o,ops[i]? =some o->∀e∈o.after.toList,Region.binds md e=true->e.on∈done\/e.on∈l1
theorem go_acc (md:Region.Mode) (ops:Array Oper):∀(fuel t:Nat) (listed:Array Bool) (acc:List Nat),
 Region.linearise.go md ops fuel t listed acc=acc.reverse++Region.linearise.go md ops fuel t listed []:=by
 intro fuel
 induction fuel with
 |zero=>intro t listed acc;simp[Region.linearise.go]
 |succ fuel ih=>
  intro t listed acc
  simp only[Region.linearise.go]
  split
  ·rename_i i _
   rw[ih _ _ (i::acc),ih _ _ [i]]
   simp
  ·simp
theorem go_ok (ops:Array Oper) (gX:edgesOK ops.toList=true):∀(fuel t:Nat) (listed:Array Bool) (done:List Nat),
 listed.size=ops.size->(∀i,i<ops.size->(listed.getD i true=true↔i∈done))->(List.range ops.size).countP (fun i=>decide (i∉done))<=fuel->
 nR .any ops done (Region.linearise.go .any ops fuel t listed []):=by
 have FE:∀(i:Nat) (o:Oper),ops[i]? =some o->∀e∈o.after.toList,Region.binds .any e=true->e.on<i:=by
  intro i o ho e he hb
  have hi:i<ops.size:=by
   rcases Nat.lt_or_ge i ops.size with h|h
   ·exact h
   ·rw[Array.getElem?_eq_none h] at ho;cases ho
  simp only[edgesOK,aeP] at gX
  have:=gX i (by simpa using hi)
  have ho':ops.toList[i]? =some o:=by simpa using ho
  rw[ho'] at this
  simp only[aeP] at this
  simpa [hb] using this e he
 intro fuel
 induction fuel with
 |zero=>
  intro t listed done hsz hl hf
  refine⟨by simp[Region.linearise.go],by simp[Region.linearise.go],fun i hi=>?_,fun l1 i l2 h=>by simp[Region.linearise.go] at h⟩
  by_cases hd:i∈done
  ·exact .inl hd
  ·have:0< (List.range ops.size).countP (fun i=>decide (i∉done)):=List.countP_pos_iff.2 ⟨i,by simpa using hi,by simpa using hd⟩
   omega
 |succ fuel ih=>
  intro t listed done hsz hl hf
  simp only[Region.linearise.go]
  generalize hrs:(List.range ops.size).filter (fun i=>!listed.getD i true&& ((ops[i]?).map (·.after.all fun e=>!Region.binds .any e||listed.getD e.on false)).getD false)=rs
  have hmem:∀i,i∈rs↔i<ops.size/\i∉done/\∃o,ops[i]? =some o/\∀e∈o.after.toList,Region.binds .any e=true->e.on∈done:=by
   intro i
   rw[<-hrs,List.mem_filter]
   constructor
   ·rintro⟨h1,h2⟩
    have hi:i<ops.size:=by simpa using h1
    simp only[RS,aff] at h2
    have hd:i∉done:=fun h=>by have:=(hl i hi).2 h;rw[this] at h2;exact absurd h2.1 (by simp)
    have hoi:ops[i]? =some ops[i]:=by simp[hi]
    refine⟨hi,hd,ops[i],hoi,fun e he hb=>?_⟩
    have h3:=h2.2
    rw[hoi] at h3
    simp only[Option.map_some,Option.getD_some,Array.all_eq_true'] at h3
    have h4:=h3 e (by simpa using he)
    rw[hb] at h4
    have hon:e.on<ops.size:=Nat.lt_trans (FE i _ hoi e he hb) hi
    have h5:listed.getD e.on false=true:=by simpa using h4
    refine(hl e.on hon).1 ?_
    simp only[Array.getD,hsz,hon,dif_pos] at h5⊢
    exact h5
   ·rintro⟨hi,hd,o,ho,he⟩
    refine⟨by simpa using hi,?_⟩
    have h1:listed.getD i true=false:=by
     have:=mt (hl i hi).1 hd
     simpa using this
    simp only[h1,Bool.not_false,Bool.true_and,ho,Option.map_some,Option.getD_some,Array.all_eq_true']
    intro e AV
    have Ll:e∈o.after.toList:=by simpa using AV
    cases hb:Region.binds .any e with
    |false=>rfl
    |true=>
     have hon:e.on<ops.size:=Nat.lt_trans (FE i _ ho e Ll hb) hi
     have:=(hl e.on hon).2 (he e Ll hb)
     simp only[Array.getD,hsz,hon,dif_pos] at this⊢
     show (!true||listed.getInternal e.on _)=true
     rw[this];rfl
  cases hpick:rs[t% rs.length]? with
  |none=>
   have hnil:rs=[]:=by
    cases rs with
    |nil=>rfl
    |cons x xs=>
     have hlt:t% (x::xs).length< (x::xs).length:=Nat.mod_lt _ (by simp)
     rw[List.getElem?_eq_none_iff] at hpick
     omega
   simp only[List.reverse_nil]
   refine⟨by simp,by simp,fun i hi=>?_,fun l1 i l2 h=>by simp at h⟩
   refine Classical.byContradiction fun hno=>?_
   have hex:∃i,i<ops.size/\i∉done:=⟨i,hi,fun h=>hno (.inl h)⟩
   have hmin:∀k,(∃i,i<=k/\i<ops.size/\i∉done)->∃i,i<ops.size/\i∉done/\∀j,j<i->j∈done:=by
    intro k
    induction k with
    |zero=>
     rintro⟨i,h0,h1,h2⟩
     obtain rfl:i=0:=by omega
     exact⟨0,h1,h2,fun j hj=>absurd hj (ab2 j)⟩
    |succ k ihk=>
     rintro⟨i,h0,h1,h2⟩
     by_cases hsm:∃i,i<=k/\i<ops.size/\i∉done
     ·exact ihk hsm
     ·refine⟨i,h1,h2,fun j hj=>Classical.byContradiction fun hjd=>hsm ⟨j,by omega,by omega,hjd⟩⟩
   obtain⟨i0,h1,h2,h3⟩:=hmin i ⟨i,iP _,hi,fun h=>hno (.inl h)⟩
   have:i0∈rs:=(hmem i0).2 ⟨h1,h2,ops[i0],by simp[h1],fun e he hb=>h3 _ (FE i0 _ (by simp[h1]) e he hb)⟩
   rw[hnil] at this
   cases this
  |some i=>
   simp only
   rw[go_acc,List.reverse_singleton]
   have hi:i∈rs:=afH hpick
   obtain⟨hilt,hid,o,ho,he⟩:=(hmem i).1 hi
   have hrec:=ih (t/rs.length) (listed.setIfInBounds i true) (i::done) (by simpa using hsz) (fun j hj=>by
    by_cases hji:j=i
    ·subst hji
     simp[Array.getD,hsz,hj]
    ·have h1:(listed.setIfInBounds i true).getD j true=listed.getD j true:=by
      simp only[Array.getD,Array.size_setIfInBounds,hsz,hj,dif_pos]
      exact Array.getElem_setIfInBounds_ne (by omega) (Ne.symm hji)
     rw[h1,hl j hj]
     simp[hji]) (by
    have:=Lj (l:=List.range ops.size) (p:=fun j=>decide (j∉done)) (q:=fun j=>decide (j∉i::done)) (a:=i)
     (fun x hx=>by simp at hx⊢;exact hx.2) (by simpa using hilt) (by simpa using hid) (by simp)
    omega)
   refine⟨?_,?_,?_,?_⟩
   ·simp only[List.singleton_append,afv]
    exact⟨fun h=>(hrec.mem i h).2 (by simp),hrec.nodup⟩
   ·intro j hj
    rcases aeQ.1 hj with e|e
    ·subst e;exact⟨hilt,hid⟩
    ·have:=hrec.mem j e
     exact⟨this.1,fun h=>this.2 (by simp[h])⟩
   ·intro j hj
    rcases hrec.all j hj with h|h
    ·rcases aeQ.1 h with e|e
     ·exact .inr (by simp[e])
     ·exact .inl e
    ·exact .inr (by simp[h])
   ·intro l1 j l2 hjl o' ho' e AV hb
    cases l1 with
    |nil=>
     simp only[List.singleton_append,List.nil_append,afg] at hjl
     obtain⟨rfl,_⟩:=hjl
     rw[ho] at ho'
     cases ho'
     exact .inl (he e AV hb)
    |cons a l1=>
     simp only[List.singleton_append,List.cons_append,afg] at hjl
     obtain⟨rfl,hjl⟩:=hjl
     rcases hrec.ord l1 j l2 hjl o' ho' e AV hb with h|h
     ·rcases aeQ.1 h with e'|e'
      ·exact .inr (by simp[e'])
      ·exact .inl e'
     ·exact .inr (by simp[h])
theorem U9 (ops:Array Oper) (gX:edgesOK ops.toList=true) (t:Nat):nR .any ops [] (Region.linearise .any ops t):=by
 refine go_ok ops gX ops.size t _ [] (by simp) (fun i hi=>?_) ?_
 ·simp[hi]
 ·have:=List.countP_le_length (p:=fun i=>decide (i∉([]:List Nat))) (l:=List.range ops.size)
  simpa using this
theorem Va {mixed:Bool} (hm:mixed=true) (ops:Array Oper) (gX:edgesOK ops.toList=true) (t:Nat):∃md,nR md ops [] (Region.schedule mixed ops t):=by
 unfold Region.schedule
 rw[hm,Bool.true_or,if_pos rfl]
 exact⟨_,U9 _ gX _⟩
theorem Vb {e:Edge} (md:Region.Mode) (h:Region.binds .any e=true):Region.binds md e=true:=by
 unfold Region.binds at h⊢
 split at h
 ·simp at h
 ·simp at h
 ·rfl
end Aq
end
section
namespace Aq
open Go
section
variable {E:Env} {S:bH} {fr fr':Fr} {σ σ':Sig}
theorem Key.eq_iff {a b:Key}:a.eq b=true↔a=b:=by
 cases a<;>cases b<;>simp[Key.eq,gy]
 rename_i x y
 obtain⟨x1,x2⟩:=x
 obtain⟨y1,y2⟩:=y
 simp
 exact⟨fun h=>⟨h.2,h.1⟩,fun h=>⟨h.2,h.1⟩⟩
theorem Lm {f g:Foot} (h:clash f g=false) (k:Key):¬(f.W k/\g.T k):=by
 rintro⟨hw,ht⟩
 simp only[clash,ae8,List.any_eq_false] at h
 obtain⟨h1,h2⟩:=h
 have FH:k∈f.w:=by
  rcases hw with h| ⟨h,hs⟩
  ·exact h
  ·rw[h,Bool.true_and] at h1
   simp only[ae8,List.any_eq_false] at h1
   obtain⟨⟨⟨a1,a2⟩,a3⟩,a4⟩:=h1
   rcases ht with e|e|e| ⟨e,_⟩
   ·subst e;cases hs
   ·exact absurd hs (a3 k e)
   ·exact absurd hs (a4 k e)
   ·rcases e with e|e
    ·rw[a1] at e;cases e
    ·rw[a2] at e;cases e
 have h3:=h2 k FH
 simp only[afp,List.any_eq_true,RS,not_or,not_exists,not_and] at h3
 obtain⟨⟨⟨h4,h5⟩,h6⟩,h7⟩:=h3
 rcases ht with h|h|h| ⟨h,hs⟩
 ·exact h4 (Key.eq_iff.2 h)
 ·exact h5 k h (Key.eq_iff.2 rfl)
 ·exact h6 k h (Key.eq_iff.2 rfl)
 ·rcases h with h|h
  ·exact h7 (.inl h) hs
  ·exact h7 (.inr h) hs
theorem Vd {st:Nat} {o:Oper} {v:V} (hop:opC E S fr σ st o=some (v,fr',σ')):fr'=fr:=by
 unfold opC at hop
 split at hop
 ·split at hop
  ·simp only[aat,mF] at hop
   obtain⟨_,_,_,rfl,_⟩:=hop;rfl
  ·split at hop
   ·simp only[aat,mF] at hop
    obtain⟨_,_,_,rfl,_⟩:=hop;rfl
   ·simp only[aat,mF] at hop
    obtain⟨_,_,_,rfl,_⟩:=hop;rfl
  ·simp at hop
 ·simp at hop
 ·simp only[aat,mF] at hop
  obtain⟨_,_,_,rfl,_⟩:=hop;rfl
def drop2 (r:Option (V×Fr×Sig)):Option (V×Sig):=r.map fun (v,_,σ)=>(v,σ)
theorem Ve {r:Option (V×Fr×Sig)} {v:V} (h:drop2 r=some (v,σ)):∃fr,r=some (v,fr,σ):=by
 simp only[drop2,aat,mF] at h
 obtain⟨⟨v',fr',σ'⟩,h1,rfl,rfl⟩:=h
 exact⟨fr',h1⟩
theorem AX (r:Option (V×Sig)) (fr:Fr):drop2 (r.map fun (v,σ)=>(v,fr,σ))=r:=by
 cases r<;>rfl
theorem Vf (ht:σ'.top=σ.top) {st:Nat} {σ1:Sig} {v:V}:Local (fun k=>k∈[Key.top]) σ σ' (gT σ st σ1 v) (gT σ' st σ1 v):=by
 have hs:∀v:V,Local (fun k=>k∈[Key.top]) σ σ' (some (v,σ)) (some (v,σ')):=fun v=>
  (fQ (σ:=σ) (σ':=σ')).local.mono (fun k hk=>by cases hk) (fun k hk=>by rw[aeH.1 hk];exact ht)
 unfold gT
 cases v with
 |lst c l=>
  dsimp only
  refine jf ?_ aV
  cases c with
  |nil=>exact hs _
  |full=>exact hs _
  |own n s=>exact jf (sG ht) aV
  |sh=>exact aV
 |vw loc s off len cap aA ag=>
  dsimp only
  exact jf (dW fun _=>sG ht) aV
 |_=>exact aV
theorem Vg {b:Bool} {l:List V} (hp:l.all (fun a=>pclean (er a))=true):iX b σ' l=iX b σ l:=by
 have hm:∀l:List V,l.all (fun a=>pclean (er a))=true->l.mapM (closeV 20 σ')=l.mapM (closeV 20 σ):=fun l hp=>wX fun x hx=>Lh (aeP.1 hp x hx)
 unfold iX
 cases b with
 |false=>simp only[aaB,if_false];exact hm l hp
 |true=>
  simp only[if_true]
  match l,hp with
  | [],_=>rfl
  |.lst .nil []::l,hp=>
   rw[List.all_cons,RS] at hp
   dsimp only
   rw[hm l hp.2]
  |.lst .nil (_::_)::_,_=>rfl
  |.lst .sh _::_,_=>rfl
  |.lst .full _::_,_=>rfl
  |.lst (.own _ _) _::_,_=>rfl
  |.int _ _::_,_=>rfl
  |.bool _::_,_=>rfl
  |.str _::_,_=>rfl
  |.nilp::_,_=>rfl
  |.nilf::_,_=>rfl
  |.nilm::_,_=>rfl
  |.nili::_,_=>rfl
  |.agg _::_,_=>rfl
  |.tup _::_,_=>rfl
  |.vw _ _ _ _ _ _ _::_,_=>rfl
  |.cref _ _::_,_=>rfl
  |.ref _ _ _::_,_=>rfl
  |.fn _ _ _::_,_=>rfl
  |.mapr _ _::_,_=>rfl
  |.mapc _ _::_,_=>rfl
  |.iface _ _::_,_=>rfl
  |.raw _::_,_=>rfl
theorem Vh (ht:σ'.top=σ.top) {st:Nat} {fv:V} {args:List V}:Local (fun k=>k∈[Key.top]) σ σ' (gU E S σ st fv args) (gU E S σ' st fv args):=by
 unfold gU
 cases fv with
 |fn f a b=>
  cases f with
  |func f=>
   dsimp only
   by_cases hp:(a++args++b).all (fun a=>pclean (er a))=true
   ·rw[if_pos hp,if_pos hp,Vg hp]
    exact dW fun as=>dW fun r=>Vf ht
   ·rw[if_neg hp];exact aV
  |_=>exact aV
 |_=>exact aV
theorem Vi {st:Nat} {o:Oper} (hw:(footS E fr o).wAll=false) (jg:(footS E fr o).tAll=true->σ'=σ) (h:∀k,k∈(footS E fr o).t\/k∈(footS E fr o).w->bN σ σ' k):
 Local (fun k=>k∈(footS E fr o).w) σ σ' (drop2 (opC E S fr σ st o)) (drop2 (opC E S fr σ' st o)):=by
 by_cases hc:∃c,o.op= .call c
 ·obtain⟨c,ho⟩:=hc
  unfold opC
  simp only[ho]
  cases aQ:c.callee with
  |builtin b=>
   simp only[AX]
   simp only[footS,ho,aQ] at h hw jg
   simp only[footS,ho,aQ]
   have hargs:∀(t:List Key),(∀k,k∈(c.args.toList.flatMap fun x=>refK (fr.ev E x))\/k∈t->bN σ σ' k)->∀x∈c.args.toList.map (fr.ev E),∀q∈refK x,bN σ σ' q:=by
    intro t ht x hx q hq
    obtain⟨y,hy,rfl⟩:=List.mem_map.1 hx
    exact ht q (.inl (List.mem_flatMap.2 ⟨y,hy,hq⟩))
   cases b<;>simp only[allF,reduceCtorEq,Bool.true_eq_false] at hw
   case len=>exact(AQ (.inl rfl) (hargs [] h)).local
   case cap=>exact(AQ (.inr (.inl rfl)) (hargs [] h)).local
   case min=>exact(AQ (.inr (.inr (.inl rfl))) (hargs [] h)).local
   case max=>exact(AQ (.inr (.inr (.inr rfl))) (hargs [] h)).local
   case append=>
    cases hom:fr.om with
    |true=>rw[hom] at hw;simp at hw
    |false=>
     rw[hom] at h
     simp only[aaB,if_false] at h⊢
     exact U2 (hargs _ h) (h .top (.inr (by simp)))
  |value f=>
   simp only[footS,ho,aQ] at h hw jg
   simp only[footS,ho,aQ]
   cases aN:dJ E fr o f with
   |true=>
    rw[aN] at h
    simp only[if_true] at h⊢
    simp only[AX]
    have ht:σ'.top=σ.top:=h .top (.inr (by simp[wrF]))
    exact Vh ht
   |false=>
   rw[aN] at h hw jg
   simp only[aaB,if_false] at h hw jg⊢
   simp only[AX]
   generalize pX:fr.ev E f=fv at h hw jg⊢
   cases fv with
   |fn g a b=>
    cases g with
    |func g=>
     simp only at h hw jg⊢
     cases hi:E.imp g with
     |true=>rw[hi] at hw;simp[allF] at hw
     |false=>
      rw[hi] at h jg
      simp only[aaB,if_false] at h jg⊢
      split
      ·rename_i hp
       exact(U7 hi hp).local
      ·rename_i hp
       rw[if_neg hp] at jg
       have:=jg rfl
       subst this
       intro v σ1 hr
       have:=U8 hi hr
       subst this
       exact⟨σ1,hr,.refl _,.refl _,fun k hk=>.refl _ _,fun k hk=>.refl _ _,fun k hk=>.refl _ _⟩
    |_=>simp[allF] at hw
   |_=>simp[allF] at hw
  |invoke r m=>exact aV
 ·have hc':∀c,o.op≠ .call c:=fun c h=>hc ⟨c,h⟩
  have hd:∀(σ:Sig),(∀d,o.op≠ .defer d)->drop2 (opC E S fr σ st o)=opV E fr σ st o:=by
   intro σ hd
   unfold opC
   split
   ·rename_i c hh;exact absurd hh (hc' c)
   ·rename_i c hh;exact absurd hh (hd c)
   ·exact AX _ _
  by_cases hdf:∃d,o.op= .defer d
  ·obtain⟨d,ho⟩:=hdf
   simp only[footS,ho,allF,Bool.true_eq_false] at hw
  ·have Lp:∀d,o.op≠ .defer d:=fun d h=>hdf ⟨d,h⟩
   rw[hd σ Lp,hd σ' Lp]
   exact U5 hc' hw h
theorem FJ {x:V}:Key.nx∉refK x:=by cases x<;>simp[refK]
theorem Vj {o:Oper}:Key.nx∉(footS E fr o).w:=by
 have hd:Key.nx∉dstK fr o:=by unfold dstK;cases o.dst<;>simp
 unfold footS
 split<;>try simp[rdF,wrF,allF,hd,FJ]
 split<;>try simp[rdF,wrF,allF,FJ]
 all_goals (repeat' split)<;>simp[rdF,wrF,allF,FJ]
theorem Vk {ops:List Oper} {o:Oper} {t:Nat} (h:Operand.tmp t∈o.op.operands.toList):Key.slot t∈slotsT ops o:=by
 refine afI _ (List.mem_filterMap.2 ⟨_,h,rfl⟩)
theorem Lr {ops:List Oper} {o:Oper} (h:∀t,Key.slot t∈slotsT ops o->fr'.tm t=fr.tm t):∀x∈o.op.operands.toList,fr'.ev E x=fr.ev E x:=by
 intro x hx
 cases x with
 |tmp t=>exact h t (Vk hx)
 |_=>rfl
theorem Ls {ops:List Oper} {o:Oper} (h:∀t,Key.slot t∈slotsT ops o->fr'.tm t=fr.tm t):aO ops fr' o=aO ops fr o:=by
 unfold aO
 cases hg:o.guard with
 |none=>rfl
 |some g=>
  obtain⟨j,want⟩:=g
  simp only
  cases hd:(ops[j]?).bind (·.dst) with
  |none=>rfl
  |some t=>
   have:fr'.tm t=fr.tm t:=h t (afD _ (by simp[hg,hd]))
   simp only[this]
theorem kT (fr:Fr) (d:Option Nat) (v:V) (t:Nat):(fr.put d v).tm t=if d=some t then v else fr.tm t:=by
 cases d with
 |none=>simp[Fr.put]
 |some i=>
  show upd fr.tm i v t=_
  by_cases h:t=i
  ·subst h;simp[upd]
  ·have:¬(some i=some t):=fun e=>h (by cases e;rfl)
   simp[upd,h,this]
theorem sH (fr:Fr) (d:Option Nat) (v:V):(fr.put d v).d=fr.d:=by cases d<;>rfl
theorem sI (fr:Fr) (d:Option Nat) (v:V):(fr.put d v).om=fr.om:=by cases d<;>rfl
theorem sJ {o:Oper} {t:Nat}:Key.slot t∈slotsW o↔o.dst=some t:=by
 unfold slotsW
 cases o.dst with
 |none=>simp
 |some d=>simp only[aeH,Key.slot.injEq,iE];exact⟨fun h=>h.symm,fun h=>h.symm⟩
theorem sK {ops:List Oper} {base i:Nat} {o:Oper} (ho:ops[i]? =some o) {wt:Bool} (hwt:aO ops fr o=some wt) {aD:Fr} {σ1:Sig} (hs:bO E S ops base i fr σ=some (aD,σ1))
 (x:Fr×Sig) (hx:∀k,(footI E ops fr o wt).T k->Ag k (fr,σ) x):
 ∃y:Fr×Sig,bO E S ops base i x.1 x.2=some y/\(∀k,(footI E ops fr o wt).W k->Ag k (aD,σ1) y)/\(∀k,¬(footI E ops fr o wt).W k->Ag k x y)/\
  ∀k,¬(footI E ops fr o wt).W k->Ag k (fr,σ) (aD,σ1):=by
 obtain⟨fr',σ'⟩:=x
 obtain⟨r1,r2⟩:fr.d=fr'.d/\fr.om=fr'.om:=hx .rest (.inl rfl)
 have hsl:∀t,Key.slot t∈slotsT ops o->fr'.tm t=fr.tm t:=by
  intro t ht
  refine Eq.symm (hx (.slot t) (.inr (.inl ?_)))
  cases wt
  ·exact ht
  ·exact afI _ ht
 have Vl:aO ops fr' o=some wt:=(Ls hsl).trans hwt
 simp only[bO,ho,hwt,Option.bind_some] at hs
 simp only[bO,ho,Vl,Option.bind_some]
 cases wt with
 |false=>
  simp only[aaB,if_false,iE,mF] at hs⊢
  obtain⟨rfl,rfl⟩:=hs
  have hW:∀k,(footI E ops fr o false).W k↔k∈slotsW o:=fun k=>by
   refine⟨fun h=>?_,fun h=>.inl h⟩
   rcases h with h| ⟨h,_⟩
   ·exact h
   ·cases h
  have Lu:∀(f:Fr) (s:Sig) k,¬(footI E ops fr o false).W k->Ag k (f,s) (f.put o.dst undefV,s):=by
   intro f s k hk
   rw[hW] at hk
   cases k with
   |slot t=>
    show f.tm t=(f.put o.dst undefV).tm t
    rw[kT,if_neg (fun e=>hk (sJ.2 e))]
   |obj l=>rfl
   |top=>rfl
   |rest=>exact⟨(sH _ _ _).symm,(sI _ _ _).symm⟩
   |nx=>exact⟨rfl,rfl⟩
  refine⟨_,rfl,fun k hk=>?_,Lu fr' σ',Lu fr σ⟩
  rw[hW] at hk
  cases k with
  |slot t=>
   show (fr.put o.dst undefV).tm t=(fr'.put o.dst undefV).tm t
   rw[kT,kT,if_pos (sJ.1 hk),if_pos (sJ.1 hk)]
  |obj l=>exfalso;unfold slotsW at hk;cases hd:o.dst<;>simp[hd] at hk
  |top=>exfalso;unfold slotsW at hk;cases hd:o.dst<;>simp[hd] at hk
  |rest=>exfalso;unfold slotsW at hk;cases hd:o.dst<;>simp[hd] at hk
  |nx=>exfalso;unfold slotsW at hk;cases hd:o.dst<;>simp[hd] at hk
 |true=>
  simp only[if_true,aat,mF] at hs⊢
  obtain⟨⟨v,bA,σ2⟩,hop,rfl,rfl⟩:=hs
  obtain rfl:=Vd hop
  have key:∃pY,opC E S fr' σ' (base+i) o=some (v,fr',pY)/\(∀k,(footI E ops bA o true).W k->Ag k (bA,σ2) (bA,pY))/\
   (∀k,¬(footI E ops bA o true).W k->Ag k (bA,σ) (bA,σ2)/\Ag k (bA,σ') (bA,pY)):=by
   rw[K9 (Lr hsl) r1.symm r2.symm]
   have FK:∀k,(footI E ops bA o true).T k->bN σ σ' k:=by
    intro k hk
    have:=hx k hk
    cases k with
    |obj l=>exact Eq.symm this
    |top=>exact Eq.symm this
    |slot t=>trivial
    |rest=>trivial
    |nx=>trivial
   cases mI:(footS E bA o).wAll with
   |true=>
    have hst:∀k:Key,k.state=true->bN σ σ' k:=fun k hk=>FK k (.inr (.inr (.inr ⟨.inr mI,hk⟩)))
    have hσ:σ'=σ:=by
     obtain⟨r3,r4⟩:σ.next=σ'.next/\σ.loops=σ'.loops:=hx .nx (.inr (.inr (.inr ⟨.inr mI,rfl⟩)))
     obtain⟨nx,top,obj,lp⟩:=σ
     obtain⟨nx',top',wY,Li⟩:=σ'
     have h1:top'=top:=hst .top rfl
     have h2:wY=obj:=funext fun l=>hst (.obj l) rfl
     simp only at r3 r4
     subst h1 h2 r3 r4;rfl
    subst hσ
    refine⟨σ2,by rw[hop];rfl,fun k _=>.refl _ _,fun k hk=>?_⟩
    cases k with
    |slot t=>exact⟨rfl,rfl⟩
    |obj l=>exact absurd (.inr ⟨mI,rfl⟩) hk
    |top=>exact absurd (.inr ⟨mI,rfl⟩) hk
    |rest=>exact⟨⟨rfl,rfl⟩,⟨rfl,rfl⟩⟩
    |nx=>exact absurd (.inr ⟨mI,rfl⟩) hk
   |false=>
    have jg:(footS E bA o).tAll=true->σ'=σ:=by
     intro ht
     have hst:∀k:Key,k.state=true->bN σ σ' k:=fun k hk=>FK k (.inr (.inr (.inr ⟨.inl ht,hk⟩)))
     obtain⟨r3,r4⟩:σ.next=σ'.next/\σ.loops=σ'.loops:=hx .nx (.inr (.inr (.inr ⟨.inl ht,rfl⟩)))
     obtain⟨nx,top,obj,lp⟩:=σ
     obtain⟨nx',top',wY,Li⟩:=σ'
     have h1:top'=top:=hst .top rfl
     have h2:wY=obj:=funext fun l=>hst (.obj l) rfl
     simp only at r3 r4
     subst h1 h2 r3 r4;rfl
    have hl:=Vi (S:=S) (st:=base+i) mI jg (fun k hk=>FK k (by
     rcases hk with hk|hk
     ·exact .inr (.inl (afD _ hk))
     ·exact .inr (.inr (.inl (afD _ hk)))))
    obtain⟨pY,h1,h2,h3,h4,h5,h6⟩:=hl v σ2 (by rw[hop];rfl)
    obtain⟨fr3,h1'⟩:=Ve h1
    have hWw:∀k,(footI E ops bA o true).W k->k∈slotsW o\/k∈(footS E bA o).w:=fun k hk=>by
     rcases hk with h| ⟨h,_⟩
     ·exact afP.1 h
     ·have:(footS E bA o).wAll=true:=h
      rw[mI] at this;cases this
    have hto:∀{σa σb:Sig} {k:Key},bN σa σb k->iF σa σb\/k≠ .nx->Ag k (bA,σa) (bA,σb):=by
     intro σa σb k ha hn
     cases k with
     |slot t=>rfl
     |obj l=>exact Eq.symm ha
     |top=>exact Eq.symm ha
     |rest=>exact⟨rfl,rfl⟩
     |nx=>
      rcases hn with hn|hn
      ·exact⟨hn.1.symm,hn.2.symm⟩
      ·exact absurd rfl hn
    have Vm:Key.nx∉(footS E bA o).w:=Vj
    refine⟨pY,by rw[h1'];rfl,fun k hk=>?_,fun k hk=>?_⟩
    ·rcases hWw k hk with h|h
     ·cases k with
      |slot t=>rfl
      |obj l=>exfalso;unfold slotsW at h;cases hd:o.dst<;>simp[hd] at h
      |top=>exfalso;unfold slotsW at h;cases hd:o.dst<;>simp[hd] at h
      |rest=>exfalso;unfold slotsW at h;cases hd:o.dst<;>simp[hd] at h
      |nx=>exfalso;unfold slotsW at h;cases hd:o.dst<;>simp[hd] at h
     ·exact hto (h4 k h) (.inr (fun e=>Vm (e▸h)))
    ·have hk':k∉(footS E bA o).w:=fun h=>hk (.inl (afD _ h))
     exact⟨hto (h5 k hk') (.inl h2),hto (h6 k hk') (.inl h3)⟩
  obtain⟨pY,h1,h2,h3⟩:=key
  refine⟨(fr'.put o.dst v,pY),⟨_,h1,rfl⟩,fun k hk=>?_,fun k hk=>?_,fun k hk=>?_⟩
  ·have hk0:=h2 k hk
   cases k with
   |slot t=>
    show (bA.put o.dst v).tm t=(fr'.put o.dst v).tm t
    rw[kT,kT]
    split
    ·rfl
    ·exact hx (.slot t) (Foot.AU hk)
   |obj l=>exact hk0
   |top=>exact hk0
   |rest=>
    refine⟨?_,?_⟩
    ·show (bA.put o.dst v).d=(fr'.put o.dst v).d;rw[sH,sH];exact r1
    ·show (bA.put o.dst v).om=(fr'.put o.dst v).om;rw[sI,sI];exact r2
   |nx=>exact hk0
  ·have hk0:=(h3 k hk).2
   cases k with
   |slot t=>
    show fr'.tm t=(fr'.put o.dst v).tm t
    rw[kT,if_neg (fun e=>hk (.inl (afI _ (sJ.2 e))))]
   |obj l=>exact hk0
   |top=>exact hk0
   |rest=>exact⟨(sH _ _ _).symm,(sI _ _ _).symm⟩
   |nx=>exact hk0
  ·have hk0:=(h3 k hk).1
   cases k with
   |slot t=>
    show bA.tm t=(bA.put o.dst v).tm t
    rw[kT,if_neg (fun e=>hk (.inl (afI _ (sJ.2 e))))]
   |obj l=>exact hk0
   |top=>exact hk0
   |rest=>exact⟨(sH _ _ _).symm,(sI _ _ _).symm⟩
   |nx=>exact hk0
end
end Aq
end
section
namespace Aq
open Go Go.RowKit
section
variable {E:Env} {S:bH}
theorem Vn (all:List Oper) (base:Nat):∀(os:List Oper) (k:Nat) (fr:Fr) (σ:Sig) (fs:List Foot) (kg:Fr) (σN:Sig),(∀j,os[j]? =all[k+j]?)->
 dZ E S all (base+k) os fr σ=some (fs,kg,σN)->fs.length=os.length/\∃s:Nat->Fr×Sig,s k=(fr,σ)/\s (k+os.length)=(kg,σN)/\
  ∀i,k<=i->i<k+os.length->bO E S all base i (s i).1 (s i).2=some (s (i+1))/\∃o wt,all[i]? =some o/\aO all (s i).1 o=some wt/\fs[i-k]? =some (footI E all (s i).1 o wt):=by
 intro os
 induction os with
 |nil=>
  intro k fr σ fs kg σN _ h
  simp only[dZ,iE,mF] at h
  obtain⟨rfl,rfl,rfl⟩:=h
  exact⟨rfl,fun _=>(fr,σ),rfl,rfl,fun i h1 h2=>by simp at h2;omega⟩
 |cons o os ih=>
  intro k fr σ fs kg σN hall h
  have h0:all[k]? =some o:=by simpa using (hall 0).symm
  have Vo:∀j,os[j]? =all[k+1+j]? :=fun j=>by have:=hall (j+1);simpa [ae9,Nat.add_comm 1 j] using this
  simp only[dZ,iR] at h
  obtain⟨wt,hwt,h⟩:=h
  have main:∀(aD:Fr) (σ1:Sig) (fs':List Foot),bO E S all base k fr σ=some (aD,σ1)->dZ E S all (base+(k+1)) os aD σ1=some (fs',kg,σN)->fs=footI E all fr o wt::fs'->
   fs.length=(o::os).length/\∃s:Nat->Fr×Sig,s k=(fr,σ)/\s (k+(o::os).length)=(kg,σN)/\
   ∀i,k<=i->i<k+(o::os).length->bO E S all base i (s i).1 (s i).2=some (s (i+1))/\∃o wt,all[i]? =some o/\aO all (s i).1 o=some wt/\fs[i-k]? =some (footI E all (s i).1 o wt):=by
   intro aD σ1 fs' hstep hrec hfs
   obtain⟨hlen,s,hs1,hs2,hs3⟩:=ih (k+1) aD σ1 fs' kg σN Vo hrec
   refine⟨by rw[hfs];simp[hlen],fun i=>if i=k then (fr,σ) else s i,by simp,?_,fun i h1 h2=>?_⟩
   ·have:¬(k+(o::os).length=k):=by simp
    simp only[this,if_false]
    rw[show k+(o::os).length=k+1+os.length by simp;omega]
    exact hs2
   ·by_cases hik:i=k
    ·subst hik
     have:¬(i+1=i):=by omega
     simp only[if_true,this,if_false]
     rw[hs1]
     exact⟨hstep,o,wt,h0,hwt,by rw[hfs];simp⟩
    ·have:¬(i+1=k):=by omega
     simp only[hik,this,if_false]
     obtain⟨g1,o',Vp,g2,g3,g4⟩:=hs3 i (by omega) (by simp at h2;omega)
     refine⟨g1,o',Vp,g2,g3,?_⟩
     rw[hfs,show i-k=(i-(k+1))+1 by omega]
     simpa using g4
  cases wt with
  |true=>
   simp only[if_true,iR,aat,mF] at h
   obtain⟨⟨v,bA,σ2⟩,hop,⟨fs',r⟩,hrec,hfs,hr⟩:=h
   refine main _ _ fs' ?_ (by rw[<-hr];exact hrec) hfs.symm
   simp only[bO,h0,hwt,Option.bind_some,if_true,hop,Option.map_some]
  |false=>
   simp only[aaB,if_false,aat,mF] at h
   obtain⟨⟨fs',r⟩,hrec,hfs,hr⟩:=h
   refine main _ _ fs' ?_ (by rw[<-hr];exact hrec) hfs.symm
   simp only[bO,h0,hwt,Option.bind_some,aaB,if_false]
theorem FL (ops:List Oper) (base:Nat):∀(l:List Nat) (x:Fr×Sig),wU (fun i x=>bO E S ops base i x.1 x.2) l x=opsL E S ops base l x.1 x.2
 | [],x=>rfl
 |i::l,x=>by
  simp only[wU,opsL]
  cases bO E S ops base i x.1 x.2 with
  |none=>rfl
  |some y=>exact FL ops base l y
def jJ (acc:List Nat) (o:Oper):Nat:=o.after.toList.foldl (fun s e=>if Region.binds .any e then s|||2^e.on|||acc.getD e.on 0 else s) 0
theorem Vq:∀(ops:List Oper) (acc:List Nat),ops.foldl (fun acc o=>acc++[jJ acc o]) acc=acc++(ops.foldl (fun acc o=>acc++[jJ acc o]) acc).drop acc.length/\
 (ops.foldl (fun acc o=>acc++[jJ acc o]) acc).length=acc.length+ops.length/\
 ∀i o,ops[i]? =some o->(ops.foldl (fun acc o=>acc++[jJ acc o]) acc).getD (acc.length+i) 0=jJ ((ops.foldl (fun acc o=>acc++[jJ acc o]) acc).take (acc.length+i)) o:=by
 intro ops
 induction ops with
 |nil=>intro acc;simp
 |cons a ops ih=>
  intro acc
  obtain⟨h1,h2,h3⟩:=ih (acc++[jJ acc a])
  simp only[List.foldl_cons]
  generalize hR:ops.foldl (fun acc o=>acc++[jJ acc o]) (acc++[jJ acc a])=R at h1 h2 h3⊢
  have hpre:R.take acc.length=acc:=by
   rw[h1]
   simp
  refine⟨?_,by rw[h2];simp;omega,fun i o ho=>?_⟩
  ·conv=>lhs;rw[<-afF acc.length R,hpre]
  ·cases i with
   |zero=>
    simp at ho
    subst ho
    rw[Nat.add_zero,hpre,h1]
    simp
   |succ i=>
    have:=h3 i o (by simpa using ho)
    simpa [ae9,Nat.add_comm 1 i] using this
theorem Vr {acc:List Nat} {o:Oper} {j:Nat} (h:(jJ acc o).testBit j=true):∃e∈o.after.toList,Region.binds .any e=true/\(j=e.on\/(acc.getD e.on 0).testBit j=true):=by
 unfold jJ at h
 generalize hl:o.after.toList=l at h
 clear hl
 have gen:∀(l:List Edge) (s:Nat),(l.foldl (fun s e=>if Region.binds .any e then s|||2^e.on|||acc.getD e.on 0 else s) s).testBit j=true->
  s.testBit j=true\/∃e∈l,Region.binds .any e=true/\(j=e.on\/(acc.getD e.on 0).testBit j=true):=by
  intro l
  induction l with
  |nil=>intro s h;exact .inl h
  |cons e l ih=>
   intro s h
   simp only[List.foldl_cons] at h
   rcases ih _ h with h1| ⟨e',he',hb,hj⟩
   ·split at h1
    ·rename_i hb
     simp only[Nat.testBit_or,afp] at h1
     rcases h1 with (h1|h1)|h1
     ·exact .inl h1
     ·exact .inr ⟨e,by simp,hb,.inl (by
       rw[Nat.testBit_two_pow] at h1
       have:e.on=j:=by simpa using h1
       exact this.symm)⟩
     ·exact .inr ⟨e,by simp,hb,.inr h1⟩
    ·exact .inl h1
   ·exact .inr ⟨e',by simp[he'],hb,hj⟩
 rcases gen l 0 h with h1|h1
 ·simp at h1
 ·exact h1
theorem Vs {ops:List Oper} (gX:edgesOK ops=true) {i j:Nat} {o:Oper} (ho:ops[i]? =some o) (h:((preM ops).getD i 0).testBit j=true):
 ∃e∈o.after.toList,Region.binds .any e=true/\e.on<i/\(j=e.on\/((preM ops).getD e.on 0).testBit j=true):=by
 have hp:preM ops=ops.foldl (fun acc o=>acc++[jJ acc o]) []:=rfl
 obtain⟨_,_,h3⟩:=Vq ops []
 have:=h3 i o ho
 simp only[List.length_nil,ae7] at this
 rw[hp,this] at h
 obtain⟨e,he,hb,hj⟩:=Vr h
 have hlt:e.on<i:=by
  have hi:i<ops.length:=by
   rcases Nat.lt_or_ge i ops.length with h|h
   ·exact h
   ·rw[List.getElem?_eq_none h] at ho;cases ho
  simp only[edgesOK,aeP] at gX
  have h1:=gX i (by simpa using hi)
  rw[ho] at h1
  simp only[aeP] at h1
  simpa [hb] using h1 e he
 refine⟨e,he,hb,hlt,hj.imp id (fun hj=>?_)⟩
 rw[hp]
 have e1:∀(l:List Nat) (a b:Nat),a<b->(l.take b).getD a 0=l.getD a 0:=fun l a b hab=>by simp[List.getD,List.getElem?_take,hab]
 rw[e1 _ _ _ hlt] at hj
 exact hj
theorem Lv {ops:Array Oper} (gX:edgesOK ops.toList=true) {md:Region.Mode} {l:List Nat} (hl:nR md ops [] l):
 ∀(i:Nat) (l1 l2:List Nat),l=l1++i::l2->∀j,((preM ops.toList).getD i 0).testBit j=true->j∈l1:=by
 intro i
 induction i using Nat.strongRecOn with
 |_ i ih=>
  intro l1 l2 FP j hj
  have hi:i<ops.size:=(hl.mem i (by rw[FP];simp)).1
  have hoi:ops[i]? =some ops[i]:=by simp[hi]
  obtain⟨e,he,hb,hlt,FQ⟩:=Vs gX (o:=ops[i]) (by simpa using hoi) hj
  have hon:e.on∈l1:=by
   rcases hl.ord l1 i l2 FP ops[i] hoi e he (Vb md hb) with h|h
   ·cases h
   ·exact h
  rcases FQ with rfl|FQ
  ·exact hon
  ·obtain⟨a,b,rfl⟩:=List.append_of_mem hon
   have:=ih e.on hlt a (b++i::l2) (by rw[FP];simp) j FQ
   exact afI _ this
theorem Vt {ops:Array Oper} {base:Nat} {fr kg:Fr} {σ σN:Sig} {fs:List Foot} (hF:dZ E S ops.toList base ops.toList fr σ=some (fs,kg,σN)) (gX:edgesOK ops.toList=true)
 (hP:pairsOK (preM ops.toList) fs=true) {md:Region.Mode} {l:List Nat} (hl:nR md ops [] l):opsL E S ops.toList base l fr σ=some (kg,σN):=by
 obtain⟨hlen,s,hs0,hsn,hs⟩:=Vn ops.toList base ops.toList 0 fr σ fs kg σN (fun j=>by simp) (by simpa using hF)
 have hn:ops.toList.length=ops.size:=by simp
 rw[ae7,hn] at hsn
 have hfs:∀i,i<ops.size->∃o wt,ops.toList[i]? =some o/\aO ops.toList (s i).1 o=some wt/\fs.getD i allF=footI E ops.toList (s i).1 o wt/\bO E S ops.toList base i (s i).1 (s i).2=some (s (i+1)):=by
  intro i hi
  obtain⟨g1,o,wt,g2,g3,g4⟩:=hs i (afd _) (by omega)
  exact⟨o,wt,g2,g3,by simp only[Nat.sub_zero] at g4;simp[List.getD,g4],g1⟩
 have hself:∀i,i<ops.size->∀k,¬(fs.getD i allF).W k->Ag k (s i) (s (i+1)):=by
  intro i hi k hk
  obtain⟨o,wt,g1,g2,g3,g4⟩:=hfs i hi
  rw[g3] at hk
  obtain⟨_,_,_,_,h4⟩:=sK g1 g2 g4 (s i) (fun k _=>.refl k _)
  exact h4 k hk
 have hap:∀i j,i<ops.size->j<i->((preM ops.toList).getD i 0).testBit j=true\/((∀k,¬((fs.getD i allF).W k/\(fs.getD j allF).T k))/\∀k,¬((fs.getD j allF).W k/\(fs.getD i allF).T k)):=by
  intro i j hi hj
  simp only[pairsOK,aeP] at hP
  have:=hP i (by simp;omega) j (by simpa using hj)
  simp only[afp] at this
  refine this.imp id (fun h=>?_)
  simp only[En,RS,aff] at h
  exact⟨Lm h.1,Lm h.2⟩
 have key:=K8 (X:=Fr×Sig) (Key:=Key) ops.size (fun i x=>bO E S ops.toList base i x.1 x.2) Ag Ag.refl (fun k x y z=>Ag.trans) s
  (fun i=>(fs.getD i allF).T) (fun i=>(fs.getD i allF).W) (fun i k=>Foot.AU)
  (fun i hi x hx=>by
    obtain⟨o,wt,g1,g2,g3,g4⟩:=hfs i hi
    obtain⟨y,h1,h2,h3,_⟩:=sK g1 g2 g4 x (fun k hk=>hx k (by rw[g3];exact hk))
    exact⟨y,h1,fun k hk=>h2 k (by rw[<-g3];exact hk),fun k hk=>h3 k (by rw[<-g3];exact hk)⟩)
  hself (fun j i=>((preM ops.toList).getD i 0).testBit j=true) hap (fun k x y=>Ag.symm)
  l [] (fr,σ) hl.nodup hl.mem hl.all (fun l1 i l2 h j hj=>.inr (Lv gX hl i l1 l2 h j hj)) (fun i hi=>by cases hi)
  (by
    intro k m
    induction m with
    |zero=>intro _ _;rw[hs0];exact .refl _ _
    |succ m ih=>
     intro hm hj
     refine Ag.trans (Ag.symm (hself m (by omega) k (fun hw=>?_))) (ih (by omega) (fun j hjn hw=>⟨(fun h=>by cases h),(fun h=>by have:=(hj j hjn hw).2 (by omega);cases this)⟩))
     have:=(hj m (by omega) hw).2 (by omega)
     cases this)
 obtain⟨y,h1,h2⟩:=key
 rw[FL] at h1
 have:=Ag.all h2
 rw[hsn] at this
 rw[h1,<-this]
theorem Vu {ops:Array Oper} {base:Nat} {x y:Fr×Sig} (hF:Free E S (preM ops.toList) ops.toList base x y) (gX:edgesOK ops.toList=true) {md:Region.Mode} {l:List Nat} (hl:nR md ops [] l):
 opsL E S ops.toList base l x.1 x.2=some y:=by
 obtain⟨s,T,W,h0,hn,wV,hloc,hself,hap⟩:=hF
 have hsz:ops.toList.length=ops.size:=by simp
 rw[hsz] at hn hloc hself hap
 obtain⟨z,h1,h2⟩:=K8 (X:=Fr×Sig) (Key:=Key) ops.size (fun i x=>bO E S ops.toList base i x.1 x.2) Ag Ag.refl (fun k x y z=>Ag.trans) s T W wV
  hloc hself (fun j i=>((preM ops.toList).getD i 0).testBit j=true) hap (fun k x y=>Ag.symm)
  l [] x hl.nodup hl.mem hl.all (fun l1 i l2 h j hj=>.inr (Lv gX hl i l1 l2 h j hj)) (fun i hi=>by cases hi)
  (by
    intro k m
    induction m with
    |zero=>intro _ _;rw[h0];exact .refl _ _
    |succ m ih=>
     intro hm hj
     refine Ag.trans (Ag.symm (hself m (by omega) k (fun hw=>?_))) (ih (by omega) (fun j hjn hw=>⟨(fun h=>by cases h),(fun h=>by have:=(hj j hjn hw).2 (by omega);cases this)⟩))
     have:=(hj m (by omega) hw).2 (by omega)
     cases this)
 rw[FL] at h1
 have:=Ag.all h2
 rw[hn] at this
 rw[h1,<-this]
end
section
variable {E:Env} {S:bH} {B0:Nat} {σ σ':Sig} {K K':aB} {w w':World} {fr fr':Fr} {a:Act} {n:Nat}
theorem Vv (hE:EnvOK E) (hS:Sound E S) {id:Nat} {ops:Array Oper} {dr:Bool} {e:Ex} (h:aK E S (.region id ops dr) fr σ=some (e,fr',σ')):fD E (.region id ops dr) fr σ e fr' σ':=by
 have fin:∀(l:List Nat),opsL E S ops.toList σ.next l fr {σ with next:=σ.next+ops.toList.length}=some (fr',σ')->l.Nodup->(∀i∈l,i<ops.size)->∀ro B0 K w a n ds Q,St E B0 σ K w fr a n ds->bE n (.region id ops dr)=true->
  (∀x a' w',pU E B0 n ds σ K w .normal fr' σ' x a' w'->Q x a' w')->wpOpsIn (FW ro) 0 E.P ops Q l a w:=by
  intro l hl hnd hlt ro B0 K w a n ds Q hs hok hq
  have hnx:=wT hS _ _ _ _ _ hl
  simp only at hnx
  have hs':St E B0 {σ with next:=σ.next+ops.toList.length} K w fr a n ds:=⟨K6 hs.ok _,hs.hB,hs.fr,hs.sz,hs.df,fun s h=>aeD (hs.st s h) (aeG _ _),hs.hD⟩
  refine K7 hE hS ops σ.next hok ro _ l fr _ K w a hl hnd hlt hs' (by simp) (fun i _ hA=>by have:=hs.st _ hA;omega) (fun a' K' w' hs2 st=>hq _ _ _ ?_)
  refine⟨trivial,K',hs2,?_⟩
  have st':Step E B0 (newer σ σ') {σ with next:=σ.next+ops.toList.length} K w σ' K' w':=st.mono (fun s hs=>by
   rcases hs with h|h
   ·exact⟨h.1,by simp at hnx;omega⟩
   ·refine⟨aaI (aeG _ _) h.1,h.2⟩)
  exact⟨st'.ok,st'.ext,st'.below,st'.D,st'.A,st'.nI,st'.kR⟩
 simp only[aK] at h
 split at h
 ·rename_i hdr
  simp only[iR] at h
  obtain⟨⟨fs,aD,σ1⟩,hF,h⟩:=h
  have hall:aD=fr'/\σ1=σ'/\e= .normal/\edgesOK ops.toList=true/\∀md l,nR md ops [] l->opsL E S ops.toList σ.next l fr {σ with next:=σ.next+ops.toList.length}=some (fr',σ'):=by
   split at h
   ·rename_i hchk
    simp only[iE,mF] at h
    obtain⟨rfl,rfl,rfl⟩:=h
    simp only[RS] at hchk
    exact⟨rfl,rfl,rfl,hchk.1,fun md l hl=>Vt hF hchk.1 hchk.2 hl⟩
   ·unfold zZ at h
    split at h
    ·rename_i hfree
     simp only[iE,mF] at h
     obtain⟨rfl,rfl,rfl⟩:=h
     exact⟨rfl,rfl,rfl,hfree.1,fun md l hl=>Vu hfree.2 hfree.1 hl⟩
    ·cases h
  obtain⟨rfl,rfl,rfl,hchk,AO⟩:=hall
  have hany:∀t,∃md,nR md ops [] (Region.schedule (E.P.follows .mixedOrders) ops t):=fun t=>Va hE.mixed _ hchk t
  have hdo:∀t,opsL E S ops.toList σ.next (Region.schedule (E.P.follows .mixedOrders) ops t) fr {σ with next:=σ.next+ops.toList.length}=some (aD,σ1):=fun t=>by
   obtain⟨md,hl⟩:=hany t
   exact AO md _ hl
  have hnx:=wT hS _ _ _ _ _ (hdo 0)
  simp only at hnx
  refine⟨aaI (aeG _ _) hnx,fun ro B0 K w a n ds hs hok _=>?_⟩
  rw[hdr]
  refine wpIn_region_draw (fun t=>?_)
  obtain⟨md,hl⟩:=hany t
  have hst:=Step.same (new:=newer σ σ) hs.ok (w':={w with drawn:=w.drawn+1}) rfl rfl rfl rfl
  have hs1:St E B0 σ K {w with drawn:=w.drawn+1} fr a n ds:=⟨hst.ok,hs.hB,hs.fr.ext hst.ext,hs.sz,hs.df,hs.st,hs.hD⟩
  refine fin _ (hdo t) hl.nodup (fun i hi=>(hl.mem i hi).1) ro B0 K _ a n ds _ hs1 (by rw[hdr];exact hok) ?_
  rintro x a' w' ⟨h1,K',h2,h3⟩
  exact⟨h1,K',h2,hst.widen h3 (iP _) (aaI (aeG _ _) hnx)⟩
 ·rename_i hdr
  have hdr':dr=false:=by simpa using hdr
  simp only[aat,mF] at h
  obtain⟨⟨aD,σ1⟩,hF,rfl,rfl,rfl⟩:=h
  rw[UG] at hF
  have hnx:=wT hS _ _ _ _ _ hF
  simp only at hnx
  refine⟨aaI (aeG _ _) hnx,fun ro B0 K w a n ds hs hok _=>?_⟩
  rw[hdr']
  exact wpIn_region (fin _ hF List.nodup_range (fun i hi=>by simpa using hi) ro B0 K w a n ds _ hs (by rw[hdr'];exact hok) (fun _ _ _ h=>h))
end
end Aq
end
section
namespace Aq
open Go Go.RowKit
section
variable {E:Env} {S:bH} {K K':aB} {w w':World} {σ σ':Sig} {B0:Nat}
theorem FT (K:aB) (T:Nat->Nat) (w:World) (D':Nat->Prop):Ext K T w {K with D:=D'} T w:=
 ⟨fun _ h=>⟨h,rfl,rfl,rfl⟩,fun _ _=>.inl ⟨rfl,rfl,rfl,rfl⟩,fun _ _ h=>⟨h,rfl⟩,fun _ h=>⟨h,rfl⟩⟩
theorem aC.AY (h:aC E B0 σ K w) (D':Nat->Prop) (hD:∀b,D' b->w.heap[b]? =some (.deferred (some []))):aC E B0 σ {K with D:=D'} w:=by
 have e:=FT K σ.top w D'
 refine⟨fun loc s ob hs=>?_,h.own,h.I,h.IM,fun l r hl=>?_,fun g cs hg=>(h.glob g cs hg).ext e,h.rb,hD⟩
 ·obtain⟨a1,a2,a3⟩:=h.obj loc s ob hs
  exact⟨a1,a2.ext e a1 (fun _=>rfl),a3⟩
 ·obtain⟨a1,a2⟩:=h.loop l r hl
  exact⟨a1,a2.ext e a1 rfl rfl⟩
theorem aC.AZ (h:aC E B0 σ K w) (hB:B0<=w.heap.size) {new:Nat->Prop} {b:Nat} {o o':Obj} (hb0:B0<=b) (hb:w.heap[b]? =some o) (hc:∀vals t f,o≠ .cells vals t f) (hm:∀es aH,o≠ .map es aH)
 (Vw:∀l r,σ'.loops l=some r->σ.loops l=some r/\K.lp l≠b) (h1:σ'.obj=σ.obj) (h2:σ'.top=σ.top) (D':Nat->Prop) (hD:∀x,D' x->K.D x/\x≠b) (Vx:∀x,K.D x->D' x):
 Step E B0 new σ K w σ' {K with D:=D'} (w.putObj b o')/\aC E B0 σ' {K with D:=D'} (w.putObj b o'):=by
 have hlt:=lt_of_heap hb
 have ho:=Fp w b o'
 have hcell:∀b' i v,w.cell? (at_ b' i)=some v->b'≠b:=fun b' i v hv e=>by
  subst e
  have:∃vals t f,o= .cells vals t f:=by
   simp only[World.cell?,hb] at hv
   cases o<;>simp at hv
   exact⟨_,_,_,rfl⟩
  obtain⟨vals,t,f,rfl⟩:=this
  exact hc _ _ _ rfl
 have e:Ext K σ.top w {K with D:=D'} σ'.top (w.putObj b o'):=by
  rw[h2]
  refine⟨fun _ h=>⟨h,rfl,rfl,rfl⟩,fun _ _=>.inl ⟨rfl,rfl,rfl,rfl⟩,fun b' i hi=>⟨hi,?_⟩,fun b' hi=>⟨hi,?_⟩⟩
  ·obtain⟨⟨v,hv⟩,_⟩:=h.I b' i hi
   exact cell_of_heap (ho.block b' (hcell b' i v hv) (lt_of_cell hv))
  ·obtain⟨⟨es,aH,hv⟩,_⟩:=h.IM b' hi
   exact ho.block b' (gW hv hb (fun e=>hm _ _ e.symm)) (lt_of_heap hv)
 have ok:aC E B0 σ' {K with D:=D'} (w.putObj b o'):=by
  refine h.upd (σ':=σ') ho e (fun _ _=>rfl) (fun r hr'=>⟨by simpa using hlt,hb0⟩) ?_ ?_ ?_ ?_ ?_ ?_
  ·intro loc s ob hs
   rw[h1] at hs
   refine .inl ⟨hs,fun dU e'=>?_⟩
   obtain⟨_,a2,_⟩:=h.obj loc s ob hs
   cases ob with
   |cells cs=>
    obtain⟨_,vals,t,g1,_⟩:=a2.2 (by cases cs with|nil=>exact dU.elim|cons _ _=>simp)
    rw[e',hb] at g1
    exact hc _ _ _ (aeF g1)
   |map ks vs=>
    obtain⟨_,es,aH,g1,_⟩:=a2
    rw[e',hb] at g1
    exact hm _ _ (aeF g1)
  ·intro s hs hlt'
   refine .inl ⟨hs,rfl,rfl,rfl,fun e'=>?_⟩
   obtain⟨_,⟨v,hv⟩,_⟩:=(h.own s hs hlt').2.2 (K.lo s) (iP _) hlt'
   exact hcell _ _ _ hv e'
  ·intro b' i hi
   obtain⟨⟨v,hv⟩,_⟩:=h.I b' i hi
   exact .inl ⟨hi,hcell b' i v hv⟩
  ·intro b' hi
   obtain⟨⟨es,aH,hv⟩,_⟩:=h.IM b' hi
   exact .inl ⟨hi,gW hv hb (fun e=>hm _ _ e.symm)⟩
  ·intro l r hl
   exact .inl (Vw l r hl)
  ·intro b' hd
   exact .inl (hD b' hd)
 exact⟨⟨ok,e,ho.below hb0 hB,Vx,fun _ h=>.inl h,fun _ _ h=>.inl h,fun _ h=>.inl h⟩,ok⟩
theorem Step.Vy (h:aC E B0 σ K w) (hB:B0<=w.heap.size) {new:Nat->Prop}:
 Step E B0 new σ K w σ {K with D:=fun b=>K.D b\/b=w.heap.size} (w.alloc (.deferred (some []))):=by
 have ho:=pI w (.deferred (some []))
 have e:Ext K σ.top w {K with D:=fun b=>K.D b\/b=w.heap.size} σ.top (w.alloc (.deferred (some []))):=by
  refine⟨fun _ h=>⟨h,rfl,rfl,rfl⟩,fun _ _=>.inl ⟨rfl,rfl,rfl,rfl⟩,fun b' i hi=>⟨hi,?_⟩,fun b' hi=>⟨hi,?_⟩⟩
  ·obtain⟨⟨v,hv⟩,_⟩:=h.I b' i hi
   rw[hv];exact Aa hv
  ·obtain⟨⟨es,aH,hv⟩,_⟩:=h.IM b' hi
   exact heap_alloc_old (lt_of_heap hv)
 refine⟨?_,e,ho.below hB hB,fun _ h=>.inl h,fun _ h=>.inl h,fun _ _ h=>.inl h,fun _ h=>.inl h⟩
 refine h.upd (σ':=σ) ho e (fun _ _=>rfl) (fun r hr'=>⟨by simp,hB⟩) ?_ ?_ ?_ ?_ ?_ ?_
 ·intro loc s ob hs
  refine .inl ⟨hs,fun hr=>?_⟩
  have:=(h.rb _ _ ((h.obj _ _ _ hs).2.2 hr)).1
  omega
 ·intro s hs hlt'
  have:=(h.rb _ _ (h.own s hs hlt').2.1).1
  exact .inl ⟨hs,rfl,rfl,rfl,by omega⟩
 ·intro b' i hi
  obtain⟨⟨v,hv⟩,_⟩:=h.I b' i hi
  exact .inl ⟨hi,ae4 (lt_of_cell hv)⟩
 ·intro b' hi
  obtain⟨⟨es,aH,hv⟩,_⟩:=h.IM b' hi
  exact .inl ⟨hi,ae4 (lt_of_heap hv)⟩
 ·intro l r hl
  have:=(h.rb _ _ (h.loop l r hl).2.2.1).1
  exact .inl ⟨hl,by omega⟩
 ·intro b' hd
  rcases hd with hd|rfl
  ·exact .inl ⟨hd,ae4 (lt_of_heap (h.D b' hd))⟩
  ·exact .inr ⟨rfl,heap_alloc_new _ _⟩
def aB.sM (K:aB) (st b:Nat):aB:=
 {K with A:=fun s=>K.A s\/s=st,lo:=upd K.lo st 0,hi:=upd K.hi st 0,lp:=upd K.lp st b,ρ:=upd K.ρ b (some (.loop st))}
theorem Step.Vz (h:aC E B0 σ K w) (hB:B0<=w.heap.size) (hst:¬K.A σ.next) {fr:Fr} {tmps:Array Value} {ps:List Nat} {aS body:Code} {fn:FuncId} {D:Nat} (hf:dK K σ.top w fr tmps)
 (hok1:bE tmps.size aS=true) (hok2:bE tmps.size body=true) (hps:∀p∈ps,p<tmps.size) (hn1:bU aS=true) (hn2:bU body=true):
 Step E B0 (· =σ.next) σ K w ({σ with next:=σ.next+1}.bC σ.next {st:=0,pend:=none,fr:=fr,ps:=ps,aS:=aS,body:=body}) (K.sM σ.next w.heap.size)
  (w.alloc (.loop {state:=.ready,pending:=none,fn:=fn,tmps:=tmps,params:=ps.toArray,assign:=aS,body:=body,defers:=D})):=by
 generalize hrec:({state:=.ready,pending:=none,fn:=fn,tmps:=tmps,params:=ps.toArray,assign:=aS,body:=body,defers:=D}:Go.Loop)=rec
 have ho:=pI w (.loop rec)
 have hne:∀s,K.A s->s≠σ.next:=fun s hs e=>hst (e▸hs)
 have e:Ext K σ.top w (K.sM σ.next w.heap.size) σ.top (w.alloc (.loop rec)):=by
  refine⟨fun s hs=>⟨.inl hs,rfl,upd_ne _ _ (hne s hs),rfl⟩,fun s hs=>.inl ⟨rfl,rfl,upd_ne _ _ (hne s hs),upd_ne _ _ (hne s hs)⟩,fun b' i hi=>⟨hi,?_⟩,fun b' hi=>⟨hi,?_⟩⟩
  ·obtain⟨⟨v,hv⟩,_⟩:=h.I b' i hi
   rw[hv];exact Aa hv
  ·obtain⟨⟨es,aH,hv⟩,_⟩:=h.IM b' hi
   exact heap_alloc_old (lt_of_heap hv)
 refine⟨?_,e,ho.below hB hB,fun _ h=>h,fun _ h=>h,fun _ _ h=>.inl h,fun _ h=>.inl h⟩
 refine h.upd (σ':=({σ with next:=σ.next+1}.bC σ.next {st:=0,pend:=none,fr:=fr,ps:=ps,aS:=aS,body:=body})) ho e (fun k hk=>upd_ne _ _ hk) (fun r hr'=>⟨by simp,hB⟩) ?_ ?_ ?_ ?_ ?_ ?_
 ·intro loc s ob hs
  have hs':σ.obj loc=some (s,ob):=hs
  refine .inl ⟨hs',fun hr=>?_⟩
  have:=(h.rb _ _ ((h.obj _ _ _ hs').2.2 hr)).1
  omega
 ·intro s hs hlt'
  have hs':s≠σ.next:=by
   rintro rfl
   simp only[aB.sM,upd_same] at hlt'
   omega
  have hA:K.A s:=hs.resolve_right hs'
  simp only[aB.sM,upd_ne _ _ hs'] at hlt'
  have:=(h.rb _ _ (h.own s hA hlt').2.1).1
  exact .inl ⟨hA,upd_ne _ _ hs',upd_ne _ _ hs',rfl,by omega⟩
 ·intro b' i hi
  obtain⟨⟨v,hv⟩,_⟩:=h.I b' i hi
  exact .inl ⟨hi,ae4 (lt_of_cell hv)⟩
 ·intro b' hi
  obtain⟨⟨es,aH,hv⟩,_⟩:=h.IM b' hi
  exact .inl ⟨hi,ae4 (lt_of_heap hv)⟩
 ·intro l r hl
  by_cases hll:l=σ.next
  ·subst hll
   right
   have hr:r={st:=0,pend:=none,fr:=fr,ps:=ps,aS:=aS,body:=body}:=by
    simpa [Sig.bC,upd] using hl.symm
   subst hr
   have hlp:(K.sM σ.next w.heap.size).lp σ.next=w.heap.size:=upd_same _ _ _
   refine⟨.inr rfl,by rw[hlp];exact hB,by rw[hlp];exact upd_same _ _ _,fn,tmps,D,?_,hf.ext e,hok1,hok2,hps,hn1,hn2⟩
   rw[hlp,heap_alloc_new,<-hrec];rfl
  ·left
   have hl1:σ.loops l=some r:=by simpa [Sig.bC,upd,hll] using hl
   have:=(h.rb _ _ (h.loop l r hl1).2.2.1).1
   exact⟨hl1,by omega⟩
 ·intro b' hd
  exact .inl ⟨hd,ae4 (lt_of_heap (h.D b' hd))⟩
theorem VA (hE:EnvOK E) (hS:Sound E S) {f:Operand} {ps:Array Tmp} {aS body:Code} {fr fr':Fr} {e:Ex} (h:aK E S (.rangeFunc f ps aS body) fr σ=some (e,fr',σ')):fD E (.rangeFunc f ps aS body) fr σ e fr' σ':=by
 simp only[aK] at h
 split at h
 ·rename_i hfun
  simp only[iR] at h
  obtain⟨⟨v,σ3⟩,happ,r,hr,h⟩:=h
  split at h
  ·simp at h
  ·rename_i hst
   simp only[iE,mF] at h
   obtain⟨he,rfl,rfl⟩:=h
   have hfn:∃g a b,fr.ev E f= .fn (.func g) a b:=by
    generalize fr.ev E f=x at hfun
    unfold Eo at hfun
    split at hfun
    ·exact⟨_,_,_,rfl⟩
    ·simp at hfun
   have hnext:σ.next+1<=σ3.next:=by
    obtain⟨g,a,b,hg⟩:=hfn
    rw[hg] at happ
    unfold cu at happ
    dsimp only at happ
    split at happ
    ·obtain⟨⟨v0,σ4⟩,happ,iG⟩:=aat.1 happ
     have:=(hS.call _ _ _ _ _ _ happ).1
     have e3:(bD (Option.map (fun t=>(fr.d,t)) none) σ4 v0).2=σ3:=congrArg Prod.snd iG
     rw[<-e3,pW];exact this
    ·simp only[iR] at happ
     obtain⟨_,_,_,_,happ⟩:=happ
     split at happ
     ·simp only[iE,mF] at happ
      rw[<-happ.2];exact iP _
     ·simp at happ
   refine⟨aaI (aeB _) hnext,fun ro B0 K w a n ds hs hok hnr=>?_⟩
   have hro:ro=none/\ds.nm=false:=by
    rcases hnr with h|h
    ·exact h
    ·simp[bU] at h
   obtain⟨hro,hnm⟩:=hro
   subst hro
   simp only[bE,RS,aeP,decide_eq_true_eq] at hok
   obtain⟨⟨⟨⟨hps,hok1⟩,hok2⟩,hn1⟩,hn2⟩:=hok
   refine wpIn_rangeFunc (fun fn _=>?_)
   have st1:=Step.Vy (new:=newer σ (σ3.fA σ.next)) hs.ok hs.hB
   have hB1:=aaI hs.hB st1.below.size
   have hst:¬K.A σ.next:=fun hA=>Nat.lt_irrefl _ (hs.st _ hA)
   have hf1:dK {K with D:=fun b=>K.D b\/b=w.heap.size} σ.top (w.alloc (.deferred (some []))) fr a.tmps:=hs.fr.ext st1.ext
   have st2:=Step.Vz (fn:=fn) (D:=w.heap.size) (ps:=ps.toList) (aS:=aS) (body:=body) st1.ok hB1 hst hf1 (by rw[hs.sz];exact hok1) (by rw[hs.sz];exact hok2) (fun p hp=>by rw[hs.sz];exact hps p hp) hn1 hn2
   have hsz1:(w.alloc (.deferred (some []))).heap.size=w.heap.size+1:=by simp
   generalize hK2:aB.sM {K with D:=fun b=>K.D b\/b=w.heap.size} σ.next (w.alloc (.deferred (some []))).heap.size=K2 at st2
   generalize hw2:(w.alloc (.deferred (some []))).alloc (.loop {state:=.ready,pending:=none,fn:=fn,tmps:=a.tmps,params:=ps.toList.toArray,assign:=aS,body:=body,defers:=w.heap.size})=w2 at st2
   have Lx:K2.lp σ.next=w.heap.size+1:=by rw[<-hK2,<-hsz1];exact upd_same _ _ _
   have hA2:K2.A σ.next:=by rw[<-hK2];exact .inr rfl
   have hf2:dK K2 σ.top w2 fr a.tmps:=hf1.ext st2.ext
   have VB:∀s,K2.A s->s<σ.next+1:=fun s hsA=>by
    rcases st2.A s hsA with h1|h1
    ·exact Nat.lt_succ_of_lt (hs.st s h1)
    ·omega
   have hB2:=aaI hB1 st2.below.size
   have hra:RelA K2 σ.top w2 [.fn (.yield σ.next) [] []] #[.func (.yield (w.heap.size+1)) #[] #[]]:=by
    refine⟨rfl,fun i hi=>?_⟩
    have hi0:i=0:=by simpa using hi
    subst hi0
    have:=Rel.yield (K:=K2) (T:=σ.top) (w:=w2) σ.next hA2
    rw[Lx] at this
    exact this
   obtain⟨_,g,first,cap,hcf,hbody,hcall⟩:=KY hE hS.call st2.ok hB2 VB hfn happ (mo st2.ok hf2 f) hra
   have henter:=run_enterLoop_outer (P:=E.P) (w:=w) fn a.tmps ps aS body
   have VD:(w.alloc (.deferred (some []))).alloc (.loop {state:=.ready,pending:=none,fn:=fn,tmps:=a.tmps,params:=ps,assign:=aS,body:=body,defers:=w.heap.size})=w2:=by
    rw[<-hw2]
   rw[VD] at henter
   refine⟨w.heap.size+1,[mark w.heap.size],w2,{target:=.fn (.func g) cap,args:=first++ #[.func (.yield (w.heap.size+1)) #[] #[]]},w2,g,first++ #[.func (.yield (w.heap.size+1)) #[] #[]]++cap,w2,henter,?_,fun _ _=>trivial,?_,
    fun hd=>by simp[FW,Fence.wide] at hd,?_⟩
   ·unfold resolve
    have hargs:(rangeCall f (w.heap.size+1)).args.map a.eval= #[.func (.yield (w.heap.size+1)) #[] #[]]:=by simp[rangeCall,Act.eval]
    rw[hargs]
    simp only[rangeCall,hcf,Deferred.ofValue,Sem.run_pure]
   ·simp only[invoke]
    exact AL hE hbody _ _
   ·have VE:CallsIn (FW none) (0-1) E.P g (first++ #[.func (.yield (w.heap.size+1)) #[] #[]]++cap) w2 _:=hcall
    refine VE.mono ?_
    intro en w3 hp
    cases en with
    |panicked ch=>exact hp.elim
    |outgrown=>exact hp.elim
    |returned cv=>
     obtain⟨K3,r3,A8,hA3,st3⟩:=hp
     obtain⟨aeE,hb3,VF,VG,VH,D3,hh3,hf3,_⟩:=A8.loop σ.next r hr
     have rZ:K3.lp σ.next=w.heap.size+1:=((st3.ext.A σ.next hA2).2.2.1).trans Lx
     have hend:=run_endLoop (P:=E.P) hh3 (by
      show iB r.st≠ .busy
      unfold iB
      split
      ·simp
      ·simp[hst])
     rw[rZ] at hend
     have hB3:=aaI hB2 st3.below.size
     have hput:=aC.AZ (σ':=σ3.fA σ.next) (new:=newer σ (σ3.fA σ.next)) (o':=.loop {state:=.exhausted,pending:=r.pend.bind iY,fn:=VG,tmps:=VH,params:=r.ps.toArray,assign:=r.aS,body:=r.body,defers:=D3}) A8 hB3 hb3 hh3 (fun _ _ _=>by simp) (fun _ _=>by simp)
      (fun l r1 hl=>by
        have hll:l≠σ.next:=by
         rintro rfl
         simp[Sig.fA,upd] at hl
        have hl1:σ3.loops l=some r1:=by simpa [Sig.fA,upd,hll] using hl
        refine⟨hl1,fun e'=>?_⟩
        have:=(A8.loop l r1 hl1).2.2.1
        rw[e',VF] at this
        cases this
        exact hll rfl) rfl rfl K3.D (fun x hx=>⟨hx,gW (A8.D x hx) hh3 (by simp)⟩) (fun _ h=>h)
     have FU:({K3 with D:=K3.D}:aB)=K3:=rfl
     rw[FU] at hput
     obtain⟨sO,A9⟩:=hput
     rw[rZ] at sO A9
     have VI:(σ3.fA σ.next).next=σ3.next:=rfl
     have gH:=Step.trans (new:=newer σ (σ3.fA σ.next)) st1 ((st2.mono (fun s hs'=>by subst hs';exact⟨iP _,by rw[VI];omega⟩)).trans ((st3.mono (fun s hs'=>by
      have h1:σ.next+1<=s:=hs'.1
      exact⟨by omega,hs'.2⟩)).trans sO))
     have mk:∀w4,aC E B0 (σ3.fA σ.next) K3 w4->Step E B0 (newer σ (σ3.fA σ.next)) σ K w (σ3.fA σ.next) K3 w4->St E B0 (σ3.fA σ.next) K3 w4 fr {a with defers:=[mark w.heap.size]++a.defers} n ds:=by
      intro w4 A9 gH
      refine⟨A9,aaI hs.hB gH.below.size,hs.fr.ext gH.ext,hs.sz,?_,hA3,aaI hs.hD gH.below.size⟩
      obtain⟨bs,d1,d2,d3,_⟩:=hs.df
      refine⟨w.heap.size::bs,by simp[d1],?_,fun b hb=>?_,fun e=>by rw[hnm] at e;cases e⟩
      ·refine afv.2 ⟨fun hm=>?_,d2⟩
       exact Nat.lt_irrefl _ (lt_of_heap (hs.ok.D _ (d3 _ hm).1))
      ·rcases aeQ.1 hb with rfl|hb
       ·exact⟨st3.D _ (st2.D _ (.inr rfl)),hs.hD⟩
       ·exact⟨gH.D b (d3 b hb).1,(d3 b hb).2⟩
     have hSt:=mk _ A9 gH
     refine⟨_,_,hend,?_⟩
     cases hp:r.pend with
     |none=>
      rw[hp] at he hSt gH
      simp only[Option.bind_none]
      subst he
      exact⟨trivial,K3,hSt,gH⟩
     |some e1=>
      rw[hp] at he hSt gH
      simp only at he
      subst he
      cases e1 with
      |normal=>exact⟨trivial,K3,hSt,gH⟩
      |exit i=>exact wpIn_exit ⟨rfl,K3,hSt,gH⟩
      |ret=>exact wpIn_ret ⟨trivial,K3,hSt,gH⟩
 ·simp at h
end
end Aq
end
section
namespace Aq
open Go Go.RowKit
theorem exists_least {p:Nat->Prop} (h:∃n,p n):∃n,p n/\∀m,p m->n<=m:=by
 obtain⟨n,hn⟩:=h
 induction n using Nat.strongRecOn with
 |_ n ih=>
  by_cases hm:∃m,m<n/\p m
  ·obtain⟨m,hm1,hm2⟩:=hm
   exact ih m hm1 hm2
  ·exact⟨n,hn,fun m hm'=>Classical.byContradiction fun hlt=>hm ⟨m,by omega,hm'⟩⟩
open Classical in
noncomputable def least (p:Nat->Prop):Nat:=if h:∃n,p n then (exists_least h).choose else 0
theorem LA {p:Nat->Prop} (h:∃n,p n):p (least p)/\∀m,p m->least p<=m:=by
 unfold least
 rw[dif_pos h]
 exact(exists_least h).choose_spec
theorem VJ {F:Fence} {rm:Nat} {P:Program} {Q:Exit->Act->World->Prop} {a:Act} {w:World} {c:Code} (I:Nat->Act->World->Prop) (n₀:Nat) (h₀:I n₀ a w)
 (round:∀n a w,I n a w->c.wpIn F rm P (Exit.then (fun a' w'=>∃n',n'<n/\I n' a' w') Q) a w):(Code.loop c).wpIn F rm P Q a w:=by
 refine wpIn_loop (fun a w=>∃n,I n a w) (fun a w=>least (fun n=>I n a w)) ⟨n₀,h₀⟩ ?_
 intro a w hI
 refine wpIn_mono (round _ a w (LA hI).1) ?_
 intro e a' w' hq
 cases e with
 |normal=>
  obtain⟨n',hlt,hI'⟩:=hq
  exact show (∃n,I n a' w')/\least (fun n=>I n a' w')<least (fun n=>I n a w) from ⟨⟨n',hI'⟩,Nat.lt_of_le_of_lt ((LA ⟨n',hI'⟩).2 n' hI') hlt⟩
 |exit id=>exact hq
 |goto l=>exact hq
 |ret=>exact hq
 |panic ch=>exact hq
 |outgrown=>exact hq
section
variable {E:Env}
def LB (E:Env) (code:Code->Fr->Sig->Option (Ex×Fr×Sig)) (c:Code):Prop:=∀fr σ e fr' σ',code c fr σ=some (e,fr',σ')->fD E c fr σ e fr' σ'
theorem VK (hE:EnvOK E) (n:Nat) (hS:∀m,m<=n->Sound E (evl E m)):∀c,LB E (aK E (evl E n)) c:=by
 intro c
 induction c with
 |skip=>
  intro fr σ e fr' σ' h
  simp only[aK,iE,mF] at h
  obtain⟨rfl,rfl,rfl⟩:=h
  exact TH
 |region id ops dr=>
  intro fr σ e fr' σ' h
  exact Vv hE (hS n (iP _)) h
 |seq x y wZ ihy=>
  intro fr σ e fr' σ' h
  simp only[aK,iR] at h
  obtain⟨⟨e1,aD,σ1⟩,h1,h⟩:=h
  cases e1 with
  |normal=>exact TM (wZ _ _ _ _ _ h1) (ihy _ _ _ _ _ h)
  |exit i=>
   simp only[iE,mF] at h
   obtain⟨rfl,rfl,rfl⟩:=h
   exact KH (by simp) (wZ _ _ _ _ _ h1)
  |ret=>
   simp only[iE,mF] at h
   obtain⟨rfl,rfl,rfl⟩:=h
   exact KH (by simp) (wZ _ _ _ _ _ h1)
 |cond c x y wZ ihy=>
  intro fr σ e fr' σ' h
  simp only[aK,iR] at h
  obtain⟨t,ht,h⟩:=h
  refine TN ht ?_
  cases t
  ·exact ihy _ _ _ _ _ (by simpa using h)
  ·exact wZ _ _ _ _ _ (by simpa using h)
 |block id c ih=>
  intro fr σ e fr' σ' h
  simp only[aK,aat] at h
  obtain⟨⟨e1,aD,σ1⟩,h1,h⟩:=h
  have:=TQ (id:=id) (ih _ _ _ _ _ h1)
  cases e1 with
  |normal=>
   simp only[mF] at h
   obtain⟨rfl,rfl,rfl⟩:=h
   exact this
  |ret=>
   simp only[mF] at h
   obtain⟨rfl,rfl,rfl⟩:=h
   exact this
  |exit i=>
   simp only[E8] at this
   simp only at h
   split at h
   ·rename_i hi
    simp only[mF] at h
    obtain⟨rfl,rfl,rfl⟩:=h
    rwa[if_pos hi] at this
   ·rename_i hi
    simp only[mF] at h
    obtain⟨rfl,rfl,rfl⟩:=h
    rwa[if_neg hi] at this
 |loop c ih=>
  intro fr σ e fr' σ' h
  have hm:(evl E (n+1)).code (.loop c) fr σ=some (e,fr',σ'):=h
  have hbody:∀k,k<=n->LB E (aK E (evl E k)) c:=by
   intro k hk
   by_cases hkn:k=n
   ·subst hkn;exact ih
   ·intro fr σ e fr' σ' hc
    exact(hS (k+1) (by omega)).code c fr σ e fr' σ' hc
  have hnext:∀(k:Nat) (fr:Fr) (σ:Sig),k<=n+1->(evl E k).code (.loop c) fr σ=some (e,fr',σ')->σ.next<=σ'.next:=by
   intro k
   induction k with
   |zero=>intro fr σ _ hh;cases hh
   |succ k ihk=>
    intro fr σ hk hh
    have hh':aK E (evl E k) (.loop c) fr σ=some (e,fr',σ'):=hh
    simp only[aK,iR] at hh'
    obtain⟨⟨e1,aD,σ1⟩,h1,h2⟩:=hh'
    have hb:=(hbody k (by omega) _ _ _ _ _ h1).1
    cases e1 with
    |normal=>exact aaI hb (ihk aD σ1 (by omega) h2)
    |exit i=>simp only[iE,mF] at h2;obtain⟨_,_,rfl⟩:=h2;exact hb
    |ret=>simp only[iE,mF] at h2;obtain⟨_,_,rfl⟩:=h2;exact hb
  refine⟨hnext (n+1) fr σ (iP _) hm,fun ro B0 K w a sz ds hs hok hnr=>?_⟩
  refine VJ (fun m a1 w1=>m<=n+1/\∃aD σ1 K1,(evl E m).code (.loop c) aD σ1=some (e,fr',σ')/\St E B0 σ1 K1 w1 aD a1 sz ds/\Step E B0 (newer σ σ1) σ K w σ1 K1 w1/\σ.next<=σ1.next) (n+1)
   ⟨iP _,fr,σ,K,hm,hs,.refl hs.ok,iP _⟩ ?_
  rintro m a1 w1 ⟨hmn,aD,σ1,K1,hcode,hs1,st1,hle1⟩
  cases m with
  |zero=>cases hcode
  |succ k=>
   have hh':aK E (evl E k) (.loop c) aD σ1=some (e,fr',σ'):=hcode
   simp only[aK,iR] at hh'
   obtain⟨⟨e2,bA,σ2⟩,h1,h2⟩:=hh'
   obtain⟨hle2,hwp⟩:=hbody k (by omega) _ _ _ _ _ h1
   refine wpIn_mono (hwp ro B0 K1 w1 a1 sz ds hs1 hok hnr) ?_
   rintro x a2 w2 ⟨hx,K2,hs2,st2⟩
   cases e2 with
   |normal=>
    cases x<;>simp only[dV] at hx
    exact⟨k,afw k,by omega,bA,σ2,K2,h2,hs2,st1.widen st2 hle1 hle2,aaI hle1 hle2⟩
   |exit i=>
    simp only[iE,mF] at h2
    obtain⟨rfl,rfl,rfl⟩:=h2
    cases x<;>simp only[dV] at hx
    exact⟨hx,K2,hs2,st1.widen st2 hle1 hle2⟩
   |ret=>
    simp only[iE,mF] at h2
    obtain⟨rfl,rfl,rfl⟩:=h2
    cases x<;>simp only[dV] at hx
    exact⟨trivial,K2,hs2,st1.widen st2 hle1 hle2⟩
 |rangeFunc f ps x y=>intro fr σ e fr' σ' h;exact VA hE (hS n (iP _)) h
 |exit id=>
  intro fr σ e fr' σ' h
  simp only[aK,iE,mF] at h
  obtain⟨rfl,rfl,rfl⟩:=h
  exact TI id
 |scope c ih=>
  intro fr σ e fr' σ' h
  simp only[aK] at h
  exact TL (ih _ _ _ _ _ h)
 |label l=>
  intro fr σ e fr' σ' h
  simp only[aK,iE,mF] at h
  obtain⟨rfl,rfl,rfl⟩:=h
  exact TK l
 |goto l=>intro fr σ e fr' σ' h;simp[aK] at h
 |ret=>
  intro fr σ e fr' σ' h
  simp only[aK,iE,mF] at h
  obtain⟨rfl,rfl,rfl⟩:=h
  exact TJ
 |refuse why=>intro fr σ e fr' σ' h;simp[aK] at h
variable {B0:Nat} {σ:Sig} {K:aB} {w:World} {fr:Fr}
def w9 (tmps:Array Value):ResultVar->Sem Value
 |.tmp t=>pure (tmps.getD t undef)
 |.cell a t=>do loadVar t (<-asAddr (tmps.getD a undef))
theorem VL (h:aC E B0 σ K w) {tmps:Array Value} (hf:dK K σ.top w fr tmps) {r:ResultVar} {v:V} (hv:resV E fr σ r=some v):
 ∃c,(w9 tmps r).run E.P w= .ok c w/\Rel K σ.top w v c:=by
 cases r with
 |tmp t=>
  simp only[resV,iE] at hv
  subst hv
  exact⟨_,rfl,hf t⟩
 |cell a t=>
  simp only[resV] at hv
  have ha:=hf a
  cases hx:fr.tm a with
  |ref loc s off=>
   rw[hx] at hv ha
   simp only at hv
   obtain⟨c,h1,h2⟩:=EI h (t:=t) ha (v:=v) hv
   simp only[w9]
   generalize tmps.getD a undef=ca at h1 ha
   cases ha with
   |ref _ _ _ hA=>
    refine⟨c,?_,h2⟩
    simpa [Instr.loadAt,Instr.sureAddr,asAddr] using h1
  |_=>rw[hx] at hv;simp at hv
theorem LC (h:aC E B0 σ K w) {tmps:Array Value} (hf:dK K σ.top w fr tmps):∀(rs:List ResultVar) (vs:List V),rs.mapM (resV E fr σ)=some vs->
 ∃cs:List Value,(rs.mapM (w9 tmps)).run E.P w= .ok cs w/\vs.length=cs.length/\
  ∀i,i<vs.length->Rel K σ.top w (vs.getD i undefV) (cs.getD i undef):=by
 intro rs
 induction rs with
 |nil=>intro vs hv;simp at hv;subst hv;exact⟨[],by simp,rfl,fun i hi=>absurd hi (ab2 i)⟩
 |cons r rs ih=>
  intro vs hv
  simp only[aew,Option.pure_def,Option.bind_eq_bind,iR,iE] at hv
  obtain⟨v,h1,vs',h2,rfl⟩:=hv
  obtain⟨c,g1,g2⟩:=VL h hf h1
  obtain⟨cs,k1,k2,k3⟩:=ih vs' h2
  refine⟨c::cs,?_,by simp[k2],fun i hi=>?_⟩
  ·simp only[aew,Sem.run_bind,g1,Result.andThen_ok,k1,Sem.run_pure]
  ·cases i with
   |zero=>exact g2
   |succ i=>exact k3 i (by simpa using hi)
theorem VN {fn:Func} {tmps:Array Value} {R:Ending->World->Prop} {B1:Nat} (hB1:B0<=B1) (KD:Nat->Prop):∀(bs:List Nat) (K:aB) (w:World),aC E B0 σ K w->B0<=w.heap.size->bs.Nodup->(∀b∈bs,K.D b/\B1<=b)->(∀b,KD b->K.D b)->(∀b,KD b->b<B1)->
 (∀w1,Step E B0 (fun _=>False) σ {K with D:=KD} w σ {K with D:=KD} w1->LeavesIn Fence.wide 0 E.P fn tmps R [] .returning w1)->LeavesInM Fence.wide 0 E.P fn tmps R (bs.map mark) .returning w:=by
 intro bs
 induction bs with
 |nil=>
  intro K w h _ _ _ hk _ hl
  refine hl w (.refl (h.AY KD (fun b hb=>h.D b (hk b hb))))
 |cons b bs ih=>
  intro K w h hB hnd hbs hk hlt hl
  obtain⟨hb,xg⟩:=hbs b (by simp)
  have hheap:=h.D b hb
  have hput:=aC.AZ (σ':=σ) (new:=fun _=>False) (o':=.deferred none) h hB (aaI hB1 xg) hheap (fun _ _ _=>by simp) (fun _ _=>by simp)
   (fun l r hl=>by
     obtain⟨_,_,_,_,_,_,hh,_⟩:=h.loop l r hl
     exact⟨hl,gW hh hheap (by simp)⟩) rfl rfl
  have ok1:aC E B0 σ {K with D:=fun x=>K.D x/\x≠b} (w.putObj b (.deferred none)):=by
   have ho:=Fp w b (.deferred none)
   have h0:aC E B0 σ {K with D:=fun _=>False} w:=h.AY _ (fun b hb=>hb.elim)
   have hp:=(aC.AZ (σ':=σ) (new:=fun _=>False) (o':=.deferred none) h0 hB (aaI hB1 xg) hheap (fun _ _ _=>by simp) (fun _ _=>by simp)
    (fun l r hl=>by
      obtain⟨_,_,_,_,_,_,hh,_⟩:=h.loop l r hl
      exact⟨hl,gW hh hheap (by simp)⟩) rfl rfl (fun _=>False) (fun x hx=>hx.elim) (fun _ h=>h)).2
   exact hp.AY (fun x=>K.D x/\x≠b) (fun x hx=>by
    rw[World.putObj_heap_other hx.2];exact h.D x hx.1)
  refine⟨by simp,.inl ⟨b,w.putObj b (.deferred none),rfl,run_takeDeferred hheap,?_⟩⟩
  refine ih {K with D:=fun x=>K.D x/\x≠b} (w.putObj b (.deferred none)) ok1 (by simpa using hB) (afv.1 hnd).2
   (fun x hx=>⟨⟨(hbs x (by simp[hx])).1,fun e=>(afv.1 hnd).1 (e▸hx)⟩,(hbs x (by simp[hx])).2⟩) (fun x hx=>⟨hk x hx,fun e=>by have:=hlt x hx;omega⟩) hlt (fun w1 st=>hl w1 ?_)
  have FU:aC E B0 σ {K with D:=KD} w:=h.AY KD (fun b hb=>h.D b (hk b hb))
  have st0:=(aC.AZ (σ':=σ) (new:=fun _=>False) (o':=.deferred none) FU hB (aaI hB1 xg) hheap (fun _ _ _=>by simp) (fun _ _=>by simp)
   (fun l r hl=>by
     obtain⟨_,_,_,_,_,_,hh,_⟩:=h.loop l r hl
     exact⟨hl,gW hh hheap (by simp)⟩) rfl rfl KD (fun x hx=>⟨hx,fun e=>by have h1:x<B1:=hlt x hx;omega⟩) (fun _ h=>h)).1
  exact st0.trans st
theorem VO (n:Nat) (hS:rW E (evl E n).code):pV E (gV E (evl E n)):=by
 intro f args d σ v σ' h
 simp only[gV,iR] at h
 obtain⟨fn,hfn,c,hc,h⟩:=h
 split at h
 ·rename_i hok
  simp only[iR] at h
  obtain⟨⟨e,aD,σ1⟩,hcode,h⟩:=h
  have hne:e= .normal\/e= .ret:=by
   cases e with
   |normal=>exact .inl rfl
   |ret=>exact .inr rfl
   |exit i=>simp at h
  have h':(fn.results.toList.mapM (resV E aD σ1)).map (fun vs=>(match vs with| [v]=>v|vs=>.tup vs,σ1))=some (v,σ'):=by
   rcases hne with rfl|rfl<;>exact h
  simp only[aat,mF] at h'
  obtain⟨vs,hvs,hv,rfl⟩:=h'
  obtain⟨hle,hwp⟩:=hS _ _ _ _ _ _ hcode
  refine⟨hle,⟨fn,c,hfn,hc⟩,fun ro B0 K w cargs hs hB hA hr=>?_⟩
  have hsz:cargs.size=args.length:=hr.1.symm
  have hst:St E B0 σ K w {d:=d,om:=E.om f,tm:=fun i=>args.getD i undefV} {tmps:=cargs++Array.replicate (fn.ntmps-cargs.size) undef,defers:=[]} fn.ntmps ⟨[],w.heap.size,false⟩:=by
   refine⟨hs,hB,fun t=>?_,by simp;omega,⟨[],rfl,List.nodup_nil,(fun b hb=>by cases hb),fun _=>rfl⟩,hA,iP _⟩
   show Rel K σ.top w (args.getD t undefV) _
   by_cases ht:t<args.length
   ·have e1:(cargs++Array.replicate (fn.ntmps-cargs.size) undef).getD t undef=cargs.getD t undef:=by
     simp only[afr]
     rw[Array.getElem?_append_left (by omega)]
    rw[e1];exact hr.2 t ht
   ·have e1:(cargs++Array.replicate (fn.ntmps-cargs.size) undef).getD t undef=undef:=by
     simp only[afr]
     rw[Array.getElem?_append_right (by omega),Array.getElem?_replicate]
     split<;>rfl
    have e2:args.getD t undefV=undefV:=by simp[List.getD,List.getElem?_eq_none (Nat.le_of_not_lt ht)]
    rw[e1,e2];exact .undef _ _ _
  have hwp':=hwp none B0 K w _ fn.ntmps ⟨[],w.heap.size,false⟩ hst hok.2 (.inl ⟨rfl,rfl⟩)
  have FV:CallsIn Fence.wide 0 E.P f cargs w (jI E B0 σ K w v σ1):=by
   refine callsIn_of_wp_marks hfn hc trivial (wpIn_mono hwp' ?_)
   rintro x a' w' ⟨hx,K',hs',st'⟩
   have hleave:LeavesInM Fence.wide 0 E.P fn a'.tmps (jI E B0 σ K w v σ1) a'.defers .returning w':=by
    obtain⟨bs,d1,d2,d3,_⟩:=hs'.df
    rw[d1,aeX]
    refine VN (B1:=w.heap.size) hB K.D bs K' w' hs'.ok hs'.hB d2 d3 st'.D (fun b hb=>lt_of_heap (hs.D b hb)) (fun w1 Ba=>?_)
    have sQ:=Ba.ok
    have hf2:dK {K' with D:=K.D} σ1.top w1 aD a'.tmps:=by
     have e1:Ext K' σ1.top w' {K' with D:=K.D} σ1.top w1:=(FT K' σ1.top w' K.D).trans Ba.ext
     exact hs'.fr.ext e1
    obtain⟨cs,k1,k2,k3⟩:=LC sQ hf2 fn.results.toList vs hvs
    have hrun:(results fn a'.tmps).run E.P w1= .ok (if h:cs.toArray.size=1 then cs.toArray[0] else .tuple cs.toArray) w1:=by
     have hres:results fn a'.tmps=(do let vs<-fn.results.mapM (w9 a'.tmps);pure (if h:vs.size=1 then vs[0] else .tuple vs)):=rfl
     rw[hres,Array.mapM_eq_mapM_toList]
     simp only[Sem.run_bind,Sem.run_map,k1,Result.andThen_ok,Sem.run_pure]
    have AB:Step E B0 (newer σ σ1) σ K w σ1 {K' with D:=K.D} w1:=
     ⟨sQ,st'.ext.trans ((FT K' σ1.top w' K.D).trans Ba.ext),st'.below.trans Ba.below,fun _ h=>h,st'.A,st'.nI,st'.kR⟩
    refine⟨_,hrun,{K' with D:=K.D},?_,sQ,hs'.st,AB⟩
    rw[<-hv]
    cases vs with
    |nil=>
     have:cs=[]:=by simpa using k2.symm
     subst this
     exact .tup [] #[] rfl (fun i hi=>absurd hi (ab2 i))
    |cons v1 vs=>
     cases cs with
     |nil=>simp at k2
     |cons c1 cs=>
      cases vs with
      |nil=>
       have:cs=[]:=by simpa using k2.symm
       subst this
       have:=k3 0 (by simp)
       simpa using this
      |cons v2 vs=>
       have hsz2:¬((c1::cs).toArray.size=1):=by
        simp only[List.length_cons,Nat.add_right_cancel_iff] at k2
        rw[List.size_toArray,List.length_cons]
        omega
       rw[dif_neg hsz2]
       refine .tup _ _ (by simpa using k2) (fun i hi=>?_)
       have:=k3 i hi
       simpa [afr,List.getD] using this
   rcases hne with rfl|rfl<;>cases x<;>simp only[dV] at hx<;>exact hleave
  exact FV
 ·simp at h
theorem evl_sound (hE:EnvOK E):∀n,Sound E (evl E n):=by
 have all:∀n m,m<=n->Sound E (evl E m):=by
  intro n
  induction n with
  |zero=>
   intro m hm
   obtain rfl:m=0:=by omega
   exact⟨(fun _ _ _ _ _ _ h=>by cases h),(fun _ _ _ _ _ _ h=>by cases h)⟩
  |succ n ih=>
   intro m hm
   by_cases hmn:m<=n
   ·exact ih m hmn
   ·obtain rfl:m=n+1:=by omega
    exact⟨fun c fr σ e fr' σ' h=>VK hE n ih c fr σ e fr' σ' h,VO n (ih n (iP _)).code⟩
 exact fun n=>all n n (iP _)
theorem VP (hE:EnvOK E) {n:Nat} {f:FuncId} {args:List V} {v:V} (h:callPure E (evl E n) f args=some v):PureOK E f args v:=callPure_sound hE (evl_sound hE n).call h
end
end Aq
end
