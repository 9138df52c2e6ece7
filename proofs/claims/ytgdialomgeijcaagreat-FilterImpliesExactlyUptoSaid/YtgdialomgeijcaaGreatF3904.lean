import Derived.Test.YtgdialomgeijcaaGreatF3903
set_option linter.all false
section
namespace Aq
open Go
section
variable {E:Env}{S:R7}{fr fr':Fr}{Y Y':qd}
theorem Ao {loc:Loc}{k:Key}(hk:k∉[Key.obj loc]):bC Y (Y.bF loc) k:=by
 cases k with
 |obj l=>have:l≠loc:=fun e=>hk (by simp[e]);show upd Y.obj loc none l=Y.obj l;simp[upd,this]
 |top=>rfl|slot t=>trivial|rest=>trivial|nx=>trivial
theorem IY {loc:Loc}{v:V}:Local (fun k=>k∈[Key.obj loc]) Y Y' (some (v,Y.bF loc)) (some (v,Y'.bF loc)):=fun v1 Y1 h=>by
 simp only[iE,iR] at h;obtain⟨rfl,rfl⟩:=h;refine⟨_,rfl,⟨rfl,rfl⟩,⟨rfl,rfl⟩,fun k hk=>?_,fun k hk=>Ao hk,fun k hk=>Ao hk⟩;obtain rfl:k= .obj loc:=by simpa using hk
 show upd Y'.obj loc none loc=upd Y.obj loc none loc;simp[upd]
theorem IZ {x:V}(h:∀k,k∈bB x->bC Y Y' k):Local (fun k=>k∈bB x) Y Y' (iq Y x) (iq Y' x):=by
 cases x with
 |vw loc s off len cap aD ag=>have h1:Y'.obj loc=Y.obj loc:=h (.obj loc) (by simp[bB]);simp only[iq,mV h1];exact fJ (fun cs=>ko IY aV)
 |_=>exact eH.local.mono (fun k hk=>by cases hk) h
theorem I4 {st:Nat}{o:Oper}(hc:∀c,o.op≠ .call c)(hw:(bK E fr o).Va=false)(h:∀k,k∈(bK E fr o).t\/k∈(bK E fr o).w->bC Y Y' k):
 Local (fun k=>k∈(bK E fr o).w) Y Y' (aH E fr Y st o) (aH E fr Y' st o):=by
 cases ho:o.op<;>simp only[bK,ho,SH,reduceCtorEq,Bool.true_eq_false] at hw;case call c=>exact absurd ho (hc c)
 all_goals
  simp only[bK,ho,U1,UF] at h;simp only[bK,ho,U1,UF];unfold aH;simp only[ho]
 case move x=>
  by_cases hz:Yr E o.dst=true
  .simp only[hz,if_true] at h⊢;exact IZ (fun k hk=>h k (.inr hk))
  .simp only[hz,PE,if_false];exact eH.local
 case assign=>exact eH.local
 case pick=>exact(dR _).local
 case alloc t=>
  cases hd:o.dst with
  |none=>exact aV|some d=>simp only[Option.map_some,Option.bind_some,iy,hd];exact fJ (fun z=>ko oZ aV)
 case box t x=>
  by_cases hz:XC E t o.dst=true
  .simp only[hz,if_true];exact(qW eH gu).local.mono (fun k hk=>by cases hk) (fun k hk=>h k (.inr hk))
  .simp only[hz,PE,if_false];cases hd:o.dst with
   |none=>exact aV|some d=>simp only[Option.map_some,Option.bind_some,iy,hd];exact ko oZ aV
 case build t parts=>exact(kg (fun _=>kg (fun _=>dR _))).local
 case buildSlice t len parts=>
  by_cases hz:bsM E o.dst=true
  .simp[hz,SH] at hw
  .simp only[hz,PE,if_false];exact(dR _).local.mono (fun k hk=>by cases hk) (fun k hk=>by cases hk)
 case load t a=>
  cases hx:fr.ev E a with
  |ref loc s off=>have h1:Y'.obj loc=Y.obj loc:=h (.obj loc) (by simp[hx,bB]);simp only[mV h1];exact(kg (fun _=>dR _)).local
  |Q5 cs off=>exact(dR _).local|_=>exact aV
 case store t a x=>
  cases hx:fr.ev E a with
  |ref loc s off=>have h1:Y'.obj loc=Y.obj loc:=h (.obj loc) (by simp[hx,bB]);simp only[mV h1];exact fJ (fun _=>ko oZ aV)
  |_=>exact aV
 case nilCheck x=>
  cases hx:fr.ev E x with
  |ref loc s off=>exact eH.local|Q5 cs off=>exact eH.local|fn f a b=>cases f<;>first|exact eH.local|exact aV
  |_=>exact aV
 case binOp=>exact(dR _).local
 case unOp=>exact(dR _).local
 case convert a b x=>rw[IJ (fun k hk=>h k (.inl hk))];exact(dR _).local
 case sliceToArrayPointer t x=>
  refine fJ (fun p=>?_);cases hx:fr.ev E x with
  |vw loc s off len cap aD ag=>exact(qW eH gu).local|tX c l=>exact(qW eH gu).local|_=>exact aV
 case typeAssert=>exact(dR _).local
 case makeInterface t x=>
  split
  .exact aV
  .exact eH.local
  .exact aV
 case makeFunc f a b=>cases f<;>first|exact eH.local|exact aV
 case makeMap t r=>
  cases r with
  |some _=>exact aV|none=>
   cases hd:o.dst with
   |none=>exact aV|some d=>simp only[Option.map_some,iy,hd];exact oZ
 case makeSlice t l c=>exact IW (fun q hq=>h q (.inr hq))
 case slice t x lo hi mx=>rw[IK (fun k hk=>h k (.inl hk))];exact(dR _).local
 case fieldAddr t x f=>
  refine fJ (fun p=>?_);cases hx:fr.ev E x with
  |ref loc s off=>exact eH.local|Q5 cs off=>exact eH.local|_=>exact aV
 case field t x f=>
  refine fJ (fun p=>?_);cases hx:fr.ev E x with
  |agg cs=>exact(dR _).local|_=>exact aV
 case indexAddr=>exact(dR _).local
 case index=>exact(dR _).local
 case lookup t x i ok=>rw[IL (fun k hk=>h k (.inl hk))];exact(dR _).local
 case mapUpdate t m k v=>exact Am (fun q hq=>h q (.inr hq))
 case insert t m k v=>exact Am (fun q hq=>h q (.inr hq))
 case extract x i=>
  cases hx:fr.ev E x with
  |Rm vs=>exact(dR _).local|_=>exact aV
theorem qY {U β:Type}{f g:U->Option β}:∀{l:List U},(∀x∈l,f x=g x)->l.mapM f=l.mapM g
 | [],_=>rfl|a::l,h=>by simp only[PW];rw[h a (by simp),qY (fun x hx=>h x (by simp[hx]))]
theorem vG {n:Nat}{x:V}(hp:Q9 x=true):Rf n Y' x=Rf n Y x:=by
 cases n with
 |zero=>rfl|succ n=>unfold Rf;simp only[hp,if_true]
theorem Ap {l:List V}{x:V}(h:x∈l):∃i,∃hi:i<l.length,x=l[i]:=by obtain⟨i,hi,e⟩:=QY.1 h;exact⟨i,hi,e.symm⟩
theorem Ar {n:Nat}{c:Cap}{l:List V}(hp:Rz l=true):Rf n Y' (.tX c l)=Rf n Y (.tX c l):=by
 cases n with
 |zero=>rfl|succ n=>
  unfold Rf;split
  .rfl
  .simp only;rw[qY (fun x hx=>?_)];obtain⟨i,hi,rfl⟩:=Ap hx;exact vG (oP hp hi)
theorem I6 {n:Nat}{x:V}(hp:Q9 (aN x)=true):Rf n Y' x=Rf n Y x:=by
 cases x with
 |tX c l=>exact Ar (by simpa [aN,Q9] using hp)|_=>exact vG hp
theorem I7 {n:Nat}{x:V}(hp:Q9 (er x)=true):Rf n Y' x=Rf n Y x:=by
 cases x with
 |tX c l=>exact Ar (by simpa [er,Q9] using hp)|agg cs=>
  have hp':Rz (cs.map aN)=true:=by simpa [er,Q9] using hp
  cases n with
  |zero=>rfl|succ n=>
   unfold Rf;split
   .rfl
   .simp only;rw[qY (fun x hx=>?_)];obtain⟨i,hi,rfl⟩:=Ap hx;refine I6 ?_;have:=oP hp' (i:=i) (by simpa using hi);simpa using this
 |_=>exact vG hp
theorem I8 {d:Nat}{g:FuncId}{a b args:List V}(hi:E.imp g=false)(hp:(a++args++b).all (fun v=>Q9 (er v))=true):
 Reads Y Y' (bG E S d Y (.fn (.func g) a b) args) (bG E S d Y' (.fn (.func g) a b) args):=by
 unfold bG;simp only[hi,PE,if_false];rw[qY (f:=Rf 20 Y') (g:=Rf 20 Y) (fun x hx=>I7 (by simp only[P7] at hp;exact hp x hx))];exact kg (fun az=>kg (fun v=>qW eH gu))
theorem I9 {d:Nat}{g:FuncId}{a b args:List V}(hi:E.imp g=false){v:V}{Y1:qd}(h:bG E S d Y (.fn (.func g) a b) args=some (v,Y1)):Y1=Y:=by
 unfold bG at h;simp only[hi,PE,if_false,iP] at h;obtain⟨_,_,_,_,h⟩:=h;split at h
 .simp only[iE,iR] at h;exact h.2.symm
 .simp at h
theorem Ag.refl (k:Key)(x:Fr×qd):Ag k x x:=by cases k<;>simp[Ag]
theorem Ag.symm {k:Key}{x y:Fr×qd}(h:Ag k x y):Ag k y x:=by
 cases k with
 |slot t=>exact Eq.symm h|obj l=>exact Eq.symm h|top=>exact Eq.symm h|rest=>exact⟨h.1.symm,h.2.symm⟩|nx=>exact⟨h.1.symm,h.2.symm⟩
theorem Ag.trans {k:Key}{x y z:Fr×qd}(h:Ag k x y)(g:Ag k y z):Ag k x z:=by
 cases k with
 |slot t=>exact Eq.trans h g|obj l=>exact Eq.trans h g|top=>exact Eq.trans h g|rest=>exact⟨h.1.trans g.1,h.2.trans g.2⟩|nx=>exact⟨h.1.trans g.1,h.2.trans g.2⟩
theorem Ag.all {x y:Fr×qd}(h:∀k,Ag k x y):x=y:=by obtain⟨⟨d,om,tm⟩,⟨nx,top,obj,lp⟩⟩:=x;obtain⟨⟨d',Pm,tm'⟩,⟨nx',top',o8,Au⟩⟩:=y;obtain⟨h1,h2⟩:=h .rest;obtain⟨h3,h4⟩:=h .nx;have h5:top=top':=h .top;have h6:obj=o8:=funext fun l=>h (.obj l);have h7:tm=tm':=funext fun t=>h (.slot t);simp only at h1 h2 h3 h4;subst h1 h2 h3 h4 h5 h6 h7;rfl
def RV.T (f:RV)(k:Key):Prop:=k= .rest\/k∈f.t\/k∈f.w\/((f.WC=true\/f.Va=true)/\k.state=true)
def RV.W (f:RV)(k:Key):Prop:=k∈f.w\/(f.Va=true/\k.state=true)
theorem RV.Av {f:RV}{k:Key}(h:f.W k):f.T k:=by
 rcases h with h| ⟨h,h1⟩
 .exact .inr (.inr (.inl h))
 .exact .inr (.inr (.inr ⟨.inr h,h1⟩))
end
theorem Aw {U:Type}{p q:U->Bool}{a:U}:∀{l:List U},(∀x,q x=true->p x=true)->a∈l->p a=true->q a=false->l.countP q<l.countP p
 | [],_,h,_,_=>by cases h|x::l,vH,hm,hp,hq=>by
  rw[List.countP_cons,List.countP_cons];have hle:l.countP q<=l.countP p:=List.countP_mono_left (fun x _ h=>vH x h);rcases PG.1 hm with e|e
  .subst e;simp only[hp,hq,if_true];have:(if false=true then 1 else 0)=0:=rfl;omega
  .have:=Aw vH e hp hq;by_cases hx:q x=true
   .have:=vH x hx;simp only[hx,this,if_true];omega
   .have hx':q x=false:=(by simpa using hx);rw[hx'];have h0:(if false=true then 1 else 0:Nat)=0:=rfl;rw[h0];omega
structure jF (md:Region.Mode)(ops:Array Oper)(done l:List Nat):Prop where
 nodup:l.Nodup
 mem:∀i∈l,i<ops.size/\i∉done
 all:∀i,i<ops.size->i∈done\/i∈l
 ord:∀l1 i l2,l=l1++i::l2->∀o,ops[i]? =some o->∀e∈o.after.toList,Region.binds md e=true->e.on∈done\/e.on∈l1
theorem go_acc (md:Region.Mode)(ops:Array Oper):∀(fuel t:Nat)(listed:Array Bool)(acc:List Nat),
 Region.linearise.go md ops fuel t listed acc=acc.reverse++Region.linearise.go md ops fuel t listed []:=by
 intro fuel;induction fuel with
 |zero=>intro t listed acc;simp[Region.linearise.go]|succ fuel ih=>
  intro t listed acc;simp only[Region.linearise.go];split
  .rename_i i _;rw[ih _ _ (i::acc),ih _ _ [i]];simp
  .simp
theorem go_ok (ops:Array Oper)(dF:Vw ops.toList=true):∀(fuel t:Nat)(listed:Array Bool)(done:List Nat),
 listed.size=ops.size->(∀i,i<ops.size->(listed.getD i true=true↔i∈done))->(List.range ops.size).countP (fun i=>decide (i∉done))<=fuel->
 jF .any ops done (Region.linearise.go .any ops fuel t listed []):=by
 have vI:∀(i:Nat)(o:Oper),ops[i]? =some o->∀e∈o.after.toList,Region.binds .any e=true->e.on<i:=by
  intro i o ho e he hb;have hi:i<ops.size:=by
   rcases Nat.lt_or_ge i ops.size with h|h
   .exact h
   .rw[Array.getElem?_eq_none h] at ho;cases ho
  simp only[Vw,P7] at dF;have:=dF i (by simpa using hi);have ho':ops.toList[i]? =some o:=by simpa using ho
  rw[ho'] at this;simp only[P7] at this;simpa [hb] using this e he
 intro fuel;induction fuel with
 |zero=>
  intro t listed done hsz hl hf;refine⟨by simp[Region.linearise.go],by simp[Region.linearise.go],fun i hi=>?_,fun l1 i l2 h=>by simp[Region.linearise.go] at h⟩;by_cases hd:i∈done
  .exact .inl hd
  .have:0< (List.range ops.size).countP (fun i=>decide (i∉done)):=List.countP_pos_iff.2 ⟨i,by simpa using hi,by simpa using hd⟩;omega
 |succ fuel ih=>
  intro t listed done hsz hl hf;simp only[Region.linearise.go];generalize hrs:(List.range ops.size).filter (fun i=>!listed.getD i true&& ((ops[i]?).map (·.after.all fun e=>!Region.binds .any e||listed.getD e.on false)).getD false)=rs;have hmem:∀i,i∈rs↔i<ops.size/\i∉done/\∃o,ops[i]? =some o/\∀e∈o.after.toList,Region.binds .any e=true->e.on∈done:=by
   intro i;rw[<-hrs,QO];constructor
   .rintro⟨h1,h2⟩;have hi:i<ops.size:=(by simpa using h1);simp only[Pz,Qy] at h2;have hd:i∉done:=fun h=>by have:=(hl i hi).2 h;rw[this] at h2;exact absurd h2.1 (by simp)
    have hoi:ops[i]? =some ops[i]:=(by simp[hi]);refine⟨hi,hd,ops[i],hoi,fun e he hb=>?_⟩;have h3:=h2.2;rw[hoi] at h3;simp only[Option.map_some,Option.getD_some,Array.all_eq_true'] at h3;have h4:=h3 e (by simpa using he);rw[hb] at h4;have hon:e.on<ops.size:=Nat.lt_trans (vI i _ hoi e he hb) hi;have h5:listed.getD e.on false=true:=(by simpa using h4);refine(hl e.on hon).1 ?_;simp only[Array.getD,hsz,hon,dif_pos] at h5⊢;exact h5
   .rintro⟨hi,hd,o,ho,he⟩;refine⟨by simpa using hi,?_⟩;have h1:listed.getD i true=false:=(by have:=mt (hl i hi).1 hd;simpa using this);simp only[h1,Bool.not_false,Bool.true_and,ho,Option.map_some,Option.getD_some,Array.all_eq_true'];intro e qZ;have Ay:e∈o.after.toList:=(by simpa using qZ);cases hb:Region.binds .any e with
    |false=>rfl|true=>have hon:e.on<ops.size:=Nat.lt_trans (vI i _ ho e Ay hb) hi;have:=(hl e.on hon).2 (he e Ay hb);simp only[Array.getD,hsz,hon,dif_pos] at this⊢;show (!true||listed.getInternal e.on _)=true;rw[this];rfl
  cases hpick:rs[t% rs.length]? with
  |none=>
   have hnil:rs=[]:=by
    cases rs with
    |nil=>rfl|cons x xs=>have hlt:t% (x::xs).length< (x::xs).length:=Nat.mod_lt _ (by simp);rw[List.getElem?_eq_none_iff] at hpick;omega
   simp only[List.reverse_nil];refine⟨by simp,by simp,fun i hi=>?_,fun l1 i l2 h=>by simp at h⟩;refine Classical.byContradiction fun hno=>?_;have hex:∃i,i<ops.size/\i∉done:=⟨i,hi,fun h=>hno (.inl h)⟩;have hmin:∀k,(∃i,i<=k/\i<ops.size/\i∉done)->∃i,i<ops.size/\i∉done/\∀j,j<i->j∈done:=by
    intro k;induction k with
    |zero=>rintro⟨i,h0,h1,h2⟩;obtain rfl:i=0:=(by omega);exact⟨0,h1,h2,fun j hj=>absurd hj (PS j)⟩
    |succ k ihk=>
     rintro⟨i,h0,h1,h2⟩;by_cases hsm:∃i,i<=k/\i<ops.size/\i∉done
     .exact ihk hsm
     .refine⟨i,h1,h2,fun j hj=>Classical.byContradiction fun hjd=>hsm ⟨j,by omega,by omega,hjd⟩⟩
   obtain⟨i0,h1,h2,h3⟩:=hmin i ⟨i,mF _,hi,fun h=>hno (.inl h)⟩;have:i0∈rs:=(hmem i0).2 ⟨h1,h2,ops[i0],by simp[h1],fun e he hb=>h3 _ (vI i0 _ (by simp[h1]) e he hb)⟩;rw[hnil] at this;cases this
  |some i=>
   simp only;rw[go_acc,List.reverse_singleton];have hi:i∈rs:=Ql hpick;obtain⟨hilt,hid,o,ho,he⟩:=(hmem i).1 hi;have hrec:=ih (t/rs.length) (listed.setIfInBounds i true) (i::done) (by simpa using hsz) (fun j hj=>by
    by_cases hji:j=i
    .subst hji;simp[Array.getD,hsz,hj]
    .have h1:(listed.setIfInBounds i true).getD j true=listed.getD j true:=(by simp only[Array.getD,Array.size_setIfInBounds,hsz,hj,dif_pos];exact Array.getElem_setIfInBounds_ne (by omega) (Ne.symm hji));rw[h1,hl j hj];simp[hji]) (by
    have:=Aw (l:=List.range ops.size) (p:=fun j=>decide (j∉done)) (q:=fun j=>decide (j∉i::done)) (a:=i)
     (fun x hx=>by simp at hx⊢;exact hx.2) (by simpa using hilt) (by simpa using hid) (by simp)
    omega)
   refine⟨?_,?_,?_,?_⟩
   .simp only[List.singleton_append,Qf];exact⟨fun h=>(hrec.mem i h).2 (by simp),hrec.nodup⟩
   .intro j hj;rcases PG.1 hj with e|e
    .subst e;exact⟨hilt,hid⟩
    .have:=hrec.mem j e;exact⟨this.1,fun h=>this.2 (by simp[h])⟩
   .intro j hj;rcases hrec.all j hj with h|h
    .rcases PG.1 h with e|e
     .exact .inr (by simp[e])
     .exact .inl e
    .exact .inr (by simp[h])
   .intro l1 j l2 hjl o' ho' e qZ hb;cases l1 with
    |nil=>simp only[List.singleton_append,List.nil_append,Qa] at hjl;obtain⟨rfl,_⟩:=hjl;rw[ho] at ho';cases ho';exact .inl (he e qZ hb)
    |cons a l1=>
     simp only[List.singleton_append,List.cons_append,Qa] at hjl;obtain⟨rfl,hjl⟩:=hjl;rcases hrec.ord l1 j l2 hjl o' ho' e qZ hb with h|h
     .rcases PG.1 h with e'|e'
      .exact .inr (by simp[e'])
      .exact .inl e'
     .exact .inr (by simp[h])
theorem Ja (ops:Array Oper)(dF:Vw ops.toList=true)(t:Nat):jF .any ops [] (Region.linearise .any ops t):=by
 refine go_ok ops dF ops.size t _ [] (by simp) (fun i hi=>?_) ?_
 .simp[hi]
 .have:=List.countP_le_length (p:=fun i=>decide (i∉([]:List Nat))) (l:=List.range ops.size);simpa using this
theorem Az {mixed:Bool}(hm:mixed=true)(ops:Array Oper)(dF:Vw ops.toList=true)(t:Nat):∃md,jF md ops [] (Region.schedule mixed ops t):=by unfold Region.schedule;rw[hm,Bool.true_or,if_pos rfl];exact⟨_,Ja _ dF _⟩
theorem Jb {e:Edge}(md:Region.Mode)(h:Region.binds .any e=true):Region.binds md e=true:=by
 unfold Region.binds at h⊢;split at h
 .simp at h
 .simp at h
 .rfl
section
variable {E:Env}{S:R7}{fr fr':Fr}{Y Y':qd}
theorem Key.eq_iff {a b:Key}:a.eq b=true↔a=b:=by
 cases a<;>cases b<;>simp[Key.eq,fQ];rename_i x y;obtain⟨x1,x2⟩:=x;obtain⟨y1,y2⟩:=y;simp;exact⟨fun h=>⟨h.2,h.1⟩,fun h=>⟨h.2,h.1⟩⟩
theorem AA {f g:RV}(h:clash f g=false)(k:Key):¬(f.W k/\g.T k):=by
 rintro⟨hw,ht⟩;simp only[clash,Qs,List.any_eq_false] at h;obtain⟨h1,h2⟩:=h;have Jc:k∈f.w:=by
  rcases hw with h| ⟨h,hs⟩
  .exact h
  .rw[h,Bool.true_and] at h1;simp only[Qs,List.any_eq_false] at h1;obtain⟨⟨⟨a1,a2⟩,a3⟩,a4⟩:=h1;rcases ht with e|e|e| ⟨e,_⟩
   .subst e;cases hs
   .exact absurd hs (a3 k e)
   .exact absurd hs (a4 k e)
   .rcases e with e|e
    .rw[a1] at e;cases e
    .rw[a2] at e;cases e
 have h3:=h2 k Jc;simp only[QE,List.any_eq_true,Pz,not_or,not_exists,not_and] at h3;obtain⟨⟨⟨h4,h5⟩,h6⟩,h7⟩:=h3;rcases ht with h|h|h| ⟨h,hs⟩
 .exact h4 (Key.eq_iff.2 h)
 .exact h5 k h (Key.eq_iff.2 rfl)
 .exact h6 k h (Key.eq_iff.2 rfl)
 .rcases h with h|h
  .exact h7 (.inl h) hs
  .exact h7 (.inr h) hs
theorem Jd {st:Nat}{o:Oper}{v:V}(hop:opC E S fr Y st o=some (v,fr',Y')):fr'=fr:=by
 unfold opC at hop;split at hop
 .split at hop
  .simp only[Py,iR] at hop;obtain⟨_,_,_,rfl,_⟩:=hop;rfl
  .split at hop
   .simp only[Py,iR] at hop;obtain⟨_,_,_,rfl,_⟩:=hop;rfl
   .simp only[Py,iR] at hop;obtain⟨_,_,_,rfl,_⟩:=hop;rfl
  .simp at hop
 .simp at hop
 .simp only[Py,iR] at hop;obtain⟨_,_,_,rfl,_⟩:=hop;rfl
def drop2 (r:Option (V×Fr×qd)):Option (V×qd):=r.map fun (v,_,Y)=>(v,Y)
theorem Je {r:Option (V×Fr×qd)}{v:V}(h:drop2 r=some (v,Y)):∃fr,r=some (v,fr,Y):=by simp only[drop2,Py,iR] at h;obtain⟨⟨v',fr',Y'⟩,h1,rfl,rfl⟩:=h;exact⟨fr',h1⟩
theorem ru (r:Option (V×qd))(fr:Fr):drop2 (r.map fun (v,Y)=>(v,fr,Y))=r:=by
 cases r<;>rfl
theorem Jf (ht:Y'.top=Y.top){st:Nat}{fv:V}{args:List V}:Local (fun k=>k∈[Key.top]) Y Y' (iw E S Y st fv args) (iw E S Y' st fv args):=by unfold iw;exact aV
theorem Jg {st:Nat}{o:Oper}(hw:(bK E fr o).Va=false)(gT:(bK E fr o).WC=true->Y'=Y)(h:∀k,k∈(bK E fr o).t\/k∈(bK E fr o).w->bC Y Y' k):
 Local (fun k=>k∈(bK E fr o).w) Y Y' (drop2 (opC E S fr Y st o)) (drop2 (opC E S fr Y' st o)):=by
 by_cases hc:∃c,o.op= .call c
 .obtain⟨c,ho⟩:=hc;unfold opC;simp only[ho];cases bD:c.callee with
  |builtin b=>
   simp only[ru];simp only[bK,ho,bD] at h hw gT;simp only[bK,ho,bD];have hargs:∀(t:List Key),(∀k,k∈(c.args.toList.flatMap fun x=>bB (fr.ev E x))\/k∈t->bC Y Y' k)->∀x∈c.args.toList.map (fr.ev E),∀q∈bB x,bC Y Y' q:=by intro t ht x hx q hq;obtain⟨y,hy,rfl⟩:=Qo.1 hx;exact ht q (.inl (List.mem_flatMap.2 ⟨y,hy,hq⟩))
   cases b<;>simp only[SH,reduceCtorEq,Bool.true_eq_false] at hw;case len=>exact(qX (.inl rfl) (hargs [] h)).local
   case cap=>exact(qX (.inr (.inl rfl)) (hargs [] h)).local
   case min=>exact(qX (.inr (.inr (.inl rfl))) (hargs [] h)).local
   case max=>exact(qX (.inr (.inr (.inr rfl))) (hargs [] h)).local
   case append=>
    cases aC:fr.om with
    |true=>rw[aC] at hw;simp at hw|false=>rw[aC] at h;simp only[PE,if_false] at h⊢;exact IX (hargs _ h) (h .top (.inr (by simp)))
  |value f=>
   simp only[bK,ho,bD] at h hw gT;simp only[bK,ho,bD];cases aS:Vl E fr o f with
   |true=>rw[aS] at h;simp only[if_true] at h⊢;simp only[ru];have ht:Y'.top=Y.top:=h .top (.inr (by simp[UF]));exact Jf ht|false=>
   rw[aS] at h hw gT;simp only[PE,if_false] at h hw gT⊢;simp only[ru];generalize jc:fr.ev E f=fv at h hw gT⊢;cases fv with
   |fn g a b=>
    cases g with
    |func g=>
     simp only at h hw gT⊢;cases hi:E.imp g with
     |true=>rw[hi] at hw;simp[SH] at hw|false=>
      rw[hi] at h gT;simp only[PE,if_false] at h gT⊢;split
      .rename_i hp;exact(I8 hi hp).local
      .rename_i hp;rw[if_neg hp] at gT;have:=gT rfl;subst this;intro v Y1 hr;have:=I9 hi hr;subst this;exact⟨Y1,hr,.refl _,.refl _,fun k hk=>.refl _ _,fun k hk=>.refl _ _,fun k hk=>.refl _ _⟩
    |_=>simp[SH] at hw
   |_=>simp[SH] at hw
  |invoke r m=>exact aV
 .have hc':∀c,o.op≠ .call c:=fun c h=>hc ⟨c,h⟩;have hd:∀(Y:qd),(∀d,o.op≠ .defer d)->drop2 (opC E S fr Y st o)=aH E fr Y st o:=by
   intro Y hd;unfold opC;split
   .rename_i c hh;exact absurd hh (hc' c)
   .rename_i c hh;exact absurd hh (hd c)
   .exact ru _ _
  by_cases hdf:∃d,o.op= .defer d
  .obtain⟨d,ho⟩:=hdf;simp only[bK,ho,SH,Bool.true_eq_false] at hw
  .have AB:∀d,o.op≠ .defer d:=fun d h=>hdf ⟨d,h⟩;rw[hd Y AB,hd Y' AB];exact I4 hc' hw h
theorem vJ {x:V}:Key.nx∉bB x:=by cases x<;>simp[bB]
theorem Jh {o:Oper}:Key.nx∉(bK E fr o).w:=by
 have hd:Key.nx∉iy fr o:=by unfold iy;cases o.dst<;>simp
 unfold bK;split<;>try simp[U1,UF,SH,hd,vJ]
 split<;>try simp[U1,UF,SH,vJ]
 all_goals (repeat' split)<;>simp[U1,UF,SH,vJ]
theorem Ji {ops:List Oper}{o:Oper}{t:Nat}(h:Operand.tmp t∈o.op.operands.toList):Key.slot t∈XD ops o:=by refine QF _ (List.mem_filterMap.2 ⟨_,h,rfl⟩)
theorem Jj {ops:List Oper}{o:Oper}(h:∀t,Key.slot t∈XD ops o->fr'.tm t=fr.tm t):∀x∈o.op.operands.toList,fr'.ev E x=fr.ev E x:=by
 intro x hx;cases x with
 |tmp t=>exact h t (Ji hx)|_=>rfl
theorem Jk {ops:List Oper}{o:Oper}(h:∀t,Key.slot t∈XD ops o->fr'.tm t=fr.tm t):Sn ops fr' o=Sn ops fr o:=by
 unfold Sn;cases hg:o.guard with
 |none=>rfl|some g=>
  obtain⟨j,want⟩:=g;simp only;cases hd:(ops[j]?).bind (·.dst) with
  |none=>rfl|some t=>have:fr'.tm t=fr.tm t:=h t (QI _ (by simp[hg,hd]));simp only[this]
theorem lH (fr:Fr)(d:Option Nat)(v:V)(t:Nat):(fr.put d v).tm t=if d=some t then v else fr.tm t:=by
 cases d with
 |none=>simp[Fr.put]|some i=>
  show upd fr.tm i v t=_;by_cases h:t=i
  .subst h;simp[upd]
  .have:¬(some i=some t):=fun e=>h (by cases e;rfl);simp[upd,h,this]
theorem o9 (fr:Fr)(d:Option Nat)(v:V):(fr.put d v).d=fr.d:=by cases d<;>rfl
theorem pq (fr:Fr)(d:Option Nat)(v:V):(fr.put d v).om=fr.om:=by cases d<;>rfl
theorem pz {o:Oper}{t:Nat}:Key.slot t∈U2 o↔o.dst=some t:=by
 unfold U2;cases o.dst with
 |none=>simp|some d=>simp only[Qc,Key.slot.injEq,iE];exact⟨fun h=>h.symm,fun h=>h.symm⟩
theorem rz {ops:List Oper}{base i:Nat}{o:Oper}(ho:ops[i]? =some o){wt:Bool}(hwt:Sn ops fr o=some wt){Rb:Fr}{Y1:qd}(hs:Tf E S ops base i fr Y=some (Rb,Y1))(x:Fr×qd)(hx:∀k,(aU E ops fr o wt).T k->Ag k (fr,Y) x):
 ∃y:Fr×qd,Tf E S ops base i x.1 x.2=some y/\(∀k,(aU E ops fr o wt).W k->Ag k (Rb,Y1) y)/\(∀k,¬(aU E ops fr o wt).W k->Ag k x y)/\
  ∀k,¬(aU E ops fr o wt).W k->Ag k (fr,Y) (Rb,Y1):=by
 obtain⟨fr',Y'⟩:=x;obtain⟨r1,r2⟩:fr.d=fr'.d/\fr.om=fr'.om:=hx .rest (.inl rfl);have hsl:∀t,Key.slot t∈XD ops o->fr'.tm t=fr.tm t:=by
  intro t ht;refine Eq.symm (hx (.slot t) (.inr (.inl ?_)));cases wt
  .exact ht
  .exact QF _ ht
 have Jl:Sn ops fr' o=some wt:=(Jk hsl).trans hwt;simp only[Tf,ho,hwt,Option.bind_some] at hs;simp only[Tf,ho,Jl,Option.bind_some];cases wt with
 |false=>
  simp only[PE,if_false,iE,iR] at hs⊢;obtain⟨rfl,rfl⟩:=hs;have hW:∀k,(aU E ops fr o false).W k↔k∈U2 o:=fun k=>by
   refine⟨fun h=>?_,fun h=>.inl h⟩;rcases h with h| ⟨h,_⟩
   .exact h
   .cases h
  have AJ:∀(f:Fr)(s:qd) k,¬(aU E ops fr o false).W k->Ag k (f,s) (f.put o.dst FN,s):=by
   intro f s k hk;rw[hW] at hk;cases k with
   |slot t=>show f.tm t=(f.put o.dst FN).tm t;rw[lH,if_neg (fun e=>hk (pz.2 e))]
   |obj l=>rfl|top=>rfl|rest=>exact⟨(o9 _ _ _).symm,(pq _ _ _).symm⟩|nx=>exact⟨rfl,rfl⟩
  refine⟨_,rfl,fun k hk=>?_,AJ fr' Y',AJ fr Y⟩;rw[hW] at hk;cases k with
  |slot t=>show (fr.put o.dst FN).tm t=(fr'.put o.dst FN).tm t;rw[lH,lH,if_pos (pz.1 hk),if_pos (pz.1 hk)]|obj l=>exfalso;unfold U2 at hk;cases hd:o.dst<;>simp[hd] at hk|top=>exfalso;unfold U2 at hk;cases hd:o.dst<;>simp[hd] at hk|rest=>exfalso;unfold U2 at hk;cases hd:o.dst<;>simp[hd] at hk|nx=>exfalso;unfold U2 at hk;cases hd:o.dst<;>simp[hd] at hk
 |true=>
  simp only[if_true,Py,iR] at hs⊢;obtain⟨⟨v,RX,Y2⟩,hop,rfl,rfl⟩:=hs;obtain rfl:=Jd hop;have key:∃lI,opC E S fr' Y' (base+i) o=some (v,fr',lI)/\(∀k,(aU E ops RX o true).W k->Ag k (RX,Y2) (RX,lI))/\
   (∀k,¬(aU E ops RX o true).W k->Ag k (RX,Y) (RX,Y2)/\Ag k (RX,Y') (RX,lI)):=by
   rw[II (Jj hsl) r1.symm r2.symm];have vK:∀k,(aU E ops RX o true).T k->bC Y Y' k:=by
    intro k hk;have:=hx k hk;cases k with
    |obj l=>exact Eq.symm this|top=>exact Eq.symm this|slot t=>trivial|rest=>trivial|nx=>trivial
   cases lJ:(bK E RX o).Va with
   |true=>
    have hst:∀k:Key,k.state=true->bC Y Y' k:=fun k hk=>vK k (.inr (.inr (.inr ⟨.inr lJ,hk⟩)));have hY:Y'=Y:=(by obtain⟨r3,r4⟩:Y.next=Y'.next/\Y.loops=Y'.loops:=hx .nx (.inr (.inr (.inr ⟨.inr lJ,rfl⟩)));obtain⟨nx,top,obj,lp⟩:=Y;obtain⟨nx',top',o8,Au⟩:=Y';have h1:top'=top:=hst .top rfl;have h2:o8=obj:=funext fun l=>hst (.obj l) rfl;simp only at r3 r4;subst h1 h2 r3 r4;rfl);subst hY;refine⟨Y2,by rw[hop];rfl,fun k _=>.refl _ _,fun k hk=>?_⟩;cases k with
    |slot t=>exact⟨rfl,rfl⟩|obj l=>exact absurd (.inr ⟨lJ,rfl⟩) hk|top=>exact absurd (.inr ⟨lJ,rfl⟩) hk|rest=>exact⟨⟨rfl,rfl⟩,⟨rfl,rfl⟩⟩|nx=>exact absurd (.inr ⟨lJ,rfl⟩) hk
   |false=>
    have gT:(bK E RX o).WC=true->Y'=Y:=(by intro ht;have hst:∀k:Key,k.state=true->bC Y Y' k:=fun k hk=>vK k (.inr (.inr (.inr ⟨.inl ht,hk⟩)));obtain⟨r3,r4⟩:Y.next=Y'.next/\Y.loops=Y'.loops:=hx .nx (.inr (.inr (.inr ⟨.inl ht,rfl⟩)));obtain⟨nx,top,obj,lp⟩:=Y;obtain⟨nx',top',o8,Au⟩:=Y';have h1:top'=top:=hst .top rfl;have h2:o8=obj:=funext fun l=>hst (.obj l) rfl;simp only at r3 r4;subst h1 h2 r3 r4;rfl);have hl:=Jg (S:=S) (st:=base+i) lJ gT (fun k hk=>vK k (by
     rcases hk with hk|hk
     .exact .inr (.inl (QI _ hk))
     .exact .inr (.inr (.inl (QI _ hk)))))
    obtain⟨lI,h1,h2,h3,h4,h5,h6⟩:=hl v Y2 (by rw[hop];rfl);obtain⟨fr3,h1'⟩:=Je h1;have hWw:∀k,(aU E ops RX o true).W k->k∈U2 o\/k∈(bK E RX o).w:=fun k hk=>by
     rcases hk with h| ⟨h,_⟩
     .exact QT.1 h
     .have:(bK E RX o).Va=true:=h;rw[lJ] at this;cases this
    have hto:∀{Ya Yb:qd}{k:Key},bC Ya Yb k->fH Ya Yb\/k≠ .nx->Ag k (RX,Ya) (RX,Yb):=by
     intro Ya Yb k ha hn;cases k with
     |slot t=>rfl|obj l=>exact Eq.symm ha|top=>exact Eq.symm ha|rest=>exact⟨rfl,rfl⟩|nx=>
      rcases hn with hn|hn
      .exact⟨hn.1.symm,hn.2.symm⟩
      .exact absurd rfl hn
    have Jm:Key.nx∉(bK E RX o).w:=Jh;refine⟨lI,by rw[h1'];rfl,fun k hk=>?_,fun k hk=>?_⟩
    .rcases hWw k hk with h|h
     .cases k with
      |slot t=>rfl|obj l=>exfalso;unfold U2 at h;cases hd:o.dst<;>simp[hd] at h|top=>exfalso;unfold U2 at h;cases hd:o.dst<;>simp[hd] at h|rest=>exfalso;unfold U2 at h;cases hd:o.dst<;>simp[hd] at h|nx=>exfalso;unfold U2 at h;cases hd:o.dst<;>simp[hd] at h
     .exact hto (h4 k h) (.inr (fun e=>Jm (e▸h)))
    .have hk':k∉(bK E RX o).w:=fun h=>hk (.inl (QI _ h));exact⟨hto (h5 k hk') (.inl h2),hto (h6 k hk') (.inl h3)⟩
  obtain⟨lI,h1,h2,h3⟩:=key;refine⟨(fr'.put o.dst v,lI),⟨_,h1,rfl⟩,fun k hk=>?_,fun k hk=>?_,fun k hk=>?_⟩
  .have hk0:=h2 k hk;cases k with
   |slot t=>
    show (RX.put o.dst v).tm t=(fr'.put o.dst v).tm t;rw[lH,lH];split
    .rfl
    .exact hx (.slot t) (RV.Av hk)
   |obj l=>exact hk0|top=>exact hk0|rest=>
    refine⟨?_,?_⟩
    .show (RX.put o.dst v).d=(fr'.put o.dst v).d;rw[o9,o9];exact r1
    .show (RX.put o.dst v).om=(fr'.put o.dst v).om;rw[pq,pq];exact r2
   |nx=>exact hk0
  .have hk0:=(h3 k hk).2;cases k with
   |slot t=>show fr'.tm t=(fr'.put o.dst v).tm t;rw[lH,if_neg (fun e=>hk (.inl (QF _ (pz.2 e))))]
   |obj l=>exact hk0|top=>exact hk0|rest=>exact⟨(o9 _ _ _).symm,(pq _ _ _).symm⟩|nx=>exact hk0
  .have hk0:=(h3 k hk).1;cases k with
   |slot t=>show RX.tm t=(RX.put o.dst v).tm t;rw[lH,if_neg (fun e=>hk (.inl (QF _ (pz.2 e))))]
   |obj l=>exact hk0|top=>exact hk0|rest=>exact⟨(o9 _ _ _).symm,(pq _ _ _).symm⟩|nx=>exact hk0
end
end Aq
end
section
namespace Aq
open Go Go.RowKit
section
variable {E:Env}{S:R7}
theorem Jo (all:List Oper)(base:Nat):∀(os:List Oper)(k:Nat)(fr:Fr)(Y:qd)(fs:List RV)(iJ:Fr)(YN:qd),(∀j,os[j]? =all[k+j]?)->
 dU E S all (base+k) os fr Y=some (fs,iJ,YN)->fs.length=os.length/\∃s:Nat->Fr×qd,s k=(fr,Y)/\s (k+os.length)=(iJ,YN)/\
  ∀i,k<=i->i<k+os.length->Tf E S all base i (s i).1 (s i).2=some (s (i+1))/\∃o wt,all[i]? =some o/\Sn all (s i).1 o=some wt/\fs[i-k]? =some (aU E all (s i).1 o wt):=by
 intro os;induction os with
 |nil=>intro k fr Y fs iJ YN _ h;simp only[dU,iE,iR] at h;obtain⟨rfl,rfl,rfl⟩:=h;exact⟨rfl,fun _=>(fr,Y),rfl,rfl,fun i h1 h2=>by simp at h2;omega⟩
 |cons o os ih=>
  intro k fr Y fs iJ YN hall h;have h0:all[k]? =some o:=by simpa using (hall 0).symm
  have Jp:∀j,os[j]? =all[k+1+j]? :=fun j=>by have:=hall (j+1);simpa [Qv,Nat.add_comm 1 j] using this
  simp only[dU,iP] at h;obtain⟨wt,hwt,h⟩:=h;have main:∀(Rb:Fr)(Y1:qd)(fs':List RV),Tf E S all base k fr Y=some (Rb,Y1)->dU E S all (base+(k+1)) os Rb Y1=some (fs',iJ,YN)->fs=aU E all fr o wt::fs'->
   fs.length=(o::os).length/\∃s:Nat->Fr×qd,s k=(fr,Y)/\s (k+(o::os).length)=(iJ,YN)/\
   ∀i,k<=i->i<k+(o::os).length->Tf E S all base i (s i).1 (s i).2=some (s (i+1))/\∃o wt,all[i]? =some o/\Sn all (s i).1 o=some wt/\fs[i-k]? =some (aU E all (s i).1 o wt):=by
   intro Rb Y1 fs' hstep hrec hfs;obtain⟨hlen,s,hs1,hs2,hs3⟩:=ih (k+1) Rb Y1 fs' iJ YN Jp hrec;refine⟨by rw[hfs];simp[hlen],fun i=>if i=k then (fr,Y) else s i,by simp,?_,fun i h1 h2=>?_⟩
   .have:¬(k+(o::os).length=k):=(by simp);simp only[this,if_false];rw[show k+(o::os).length=k+1+os.length by simp;omega];exact hs2
   .by_cases hik:i=k
    .subst hik;have:¬(i+1=i):=(by omega);simp only[if_true,this,if_false];rw[hs1];exact⟨hstep,o,wt,h0,hwt,by rw[hfs];simp⟩
    .have:¬(i+1=k):=(by omega);simp only[hik,this,if_false];obtain⟨g1,o',Jq,g2,g3,g4⟩:=hs3 i (by omega) (by simp at h2;omega);refine⟨g1,o',Jq,g2,g3,?_⟩;rw[hfs,show i-k=(i-(k+1))+1 by omega];simpa using g4
  cases wt with
  |true=>simp only[if_true,iP,Py,iR] at h;obtain⟨⟨v,RX,Y2⟩,hop,⟨fs',r⟩,hrec,hfs,hr⟩:=h;refine main _ _ fs' ?_ (by rw[<-hr];exact hrec) hfs.symm;simp only[Tf,h0,hwt,Option.bind_some,if_true,hop,Option.map_some]
  |false=>simp only[PE,if_false,Py,iR] at h;obtain⟨⟨fs',r⟩,hrec,hfs,hr⟩:=h;refine main _ _ fs' ?_ (by rw[<-hr];exact hrec) hfs.symm;simp only[Tf,h0,hwt,Option.bind_some,PE,if_false]
theorem vL (ops:List Oper)(base:Nat):∀(l:List Nat)(x:Fr×qd),oU (fun i x=>Tf E S ops base i x.1 x.2) l x=opsL E S ops base l x.1 x.2
 | [],x=>rfl|i::l,x=>by
  simp only[oU,opsL];cases Tf E S ops base i x.1 x.2 with
  |none=>rfl|some y=>exact vL ops base l y
def gU (acc:List Nat)(o:Oper):Nat:=o.after.toList.foldl (fun s e=>if Region.binds .any e then s|||2^e.on|||acc.getD e.on 0 else s) 0
theorem Jr:∀(ops:List Oper)(acc:List Nat),ops.foldl (fun acc o=>acc++[gU acc o]) acc=acc++(ops.foldl (fun acc o=>acc++[gU acc o]) acc).drop acc.length/\ (ops.foldl (fun acc o=>acc++[gU acc o]) acc).length=acc.length+ops.length/\
 ∀i o,ops[i]? =some o->(ops.foldl (fun acc o=>acc++[gU acc o]) acc).getD (acc.length+i) 0=gU ((ops.foldl (fun acc o=>acc++[gU acc o]) acc).take (acc.length+i)) o:=by
 intro ops;induction ops with
 |nil=>intro acc;simp|cons a ops ih=>
  intro acc;obtain⟨h1,h2,h3⟩:=ih (acc++[gU acc a]);simp only[List.foldl_cons];generalize hR:ops.foldl (fun acc o=>acc++[gU acc o]) (acc++[gU acc a])=R at h1 h2 h3⊢;have hpre:R.take acc.length=acc:=by rw[h1];simp
  refine⟨?_,by rw[h2];simp;omega,fun i o ho=>?_⟩
  .conv=>lhs;rw[<-List.take_append_drop acc.length R,hpre]
  .cases i with
   |zero=>simp at ho;subst ho;rw[Nat.add_zero,hpre,h1];simp|succ i=>have:=h3 i o (by simpa using ho);simpa [Qv,Nat.add_comm 1 i] using this
theorem Js {acc:List Nat}{o:Oper}{j:Nat}(h:(gU acc o).testBit j=true):∃e∈o.after.toList,Region.binds .any e=true/\(j=e.on\/(acc.getD e.on 0).testBit j=true):=by
 unfold gU at h;generalize hl:o.after.toList=l at h;clear hl;have gen:∀(l:List Edge)(s:Nat),(l.foldl (fun s e=>if Region.binds .any e then s|||2^e.on|||acc.getD e.on 0 else s) s).testBit j=true->
  s.testBit j=true\/∃e∈l,Region.binds .any e=true/\(j=e.on\/(acc.getD e.on 0).testBit j=true):=by
  intro l;induction l with
  |nil=>intro s h;exact .inl h|cons e l ih=>
   intro s h;simp only[List.foldl_cons] at h;rcases ih _ h with h1| ⟨e',he',hb,hj⟩
   .split at h1
    .rename_i hb;simp only[Nat.testBit_or,QE] at h1;rcases h1 with (h1|h1)|h1
     .exact .inl h1
     .exact .inr ⟨e,by simp,hb,.inl (by rw[Nat.testBit_two_pow] at h1;have:e.on=j:=(by simpa using h1);exact this.symm)⟩
     .exact .inr ⟨e,by simp,hb,.inr h1⟩
    .exact .inl h1
   .exact .inr ⟨e',by simp[he'],hb,hj⟩
 rcases gen l 0 h with h1|h1
 .simp at h1
 .exact h1
theorem Jt {ops:List Oper}(dF:Vw ops=true){i j:Nat}{o:Oper}(ho:ops[i]? =some o)(h:((Vm ops).getD i 0).testBit j=true):
 ∃e∈o.after.toList,Region.binds .any e=true/\e.on<i/\(j=e.on\/((Vm ops).getD e.on 0).testBit j=true):=by
 have hp:Vm ops=ops.foldl (fun acc o=>acc++[gU acc o]) []:=rfl;obtain⟨_,_,h3⟩:=Jr ops [];have:=h3 i o ho;simp only[List.length_nil,Qi] at this;rw[hp,this] at h;obtain⟨e,he,hb,hj⟩:=Js h;have hlt:e.on<i:=by
  have hi:i<ops.length:=by
   rcases Nat.lt_or_ge i ops.length with h|h
   .exact h
   .rw[List.getElem?_eq_none h] at ho;cases ho
  simp only[Vw,P7] at dF;have h1:=dF i (by simpa using hi);rw[ho] at h1;simp only[P7] at h1;simpa [hb] using h1 e he
 refine⟨e,he,hb,hlt,hj.imp id (fun hj=>?_)⟩;rw[hp];have e1:∀(l:List Nat)(a b:Nat),a<b->(l.take b).getD a 0=l.getD a 0:=fun l a b hab=>by simp[List.getD,List.getElem?_take,hab]
 rw[e1 _ _ _ hlt] at hj;exact hj
theorem vM {ops:Array Oper}(dF:Vw ops.toList=true){md:Region.Mode}{l:List Nat}(hl:jF md ops [] l):
 ∀(i:Nat)(l1 l2:List Nat),l=l1++i::l2->∀j,((Vm ops.toList).getD i 0).testBit j=true->j∈l1:=by
 intro i;induction i using Nat.strongRecOn with
 |_ i ih=>
  intro l1 l2 vN j hj;have hi:i<ops.size:=(hl.mem i (by rw[vN];simp)).1;have hoi:ops[i]? =some ops[i]:=by simp[hi]
  obtain⟨e,he,hb,hlt,vO⟩:=Jt dF (o:=ops[i]) (by simpa using hoi) hj;have hon:e.on∈l1:=by
   rcases hl.ord l1 i l2 vN ops[i] hoi e he (Jb md hb) with h|h
   .cases h
   .exact h
  rcases vO with rfl|vO
  .exact hon
  .obtain⟨a,b,rfl⟩:=List.append_of_mem hon;have:=ih e.on hlt a (b++i::l2) (by rw[vN];simp) j vO;exact QF _ this
theorem Ju {ops:Array Oper}{base:Nat}{fr iJ:Fr}{Y YN:qd}{fs:List RV}(hF:dU E S ops.toList base ops.toList fr Y=some (fs,iJ,YN))(dF:Vw ops.toList=true)(hP:Z8 (Vm ops.toList) fs=true){md:Region.Mode}{l:List Nat}(hl:jF md ops [] l):opsL E S ops.toList base l fr Y=some (iJ,YN):=by
 obtain⟨hlen,s,hs0,hsn,hs⟩:=Jo ops.toList base ops.toList 0 fr Y fs iJ YN (fun j=>by simp) (by simpa using hF);have hn:ops.toList.length=ops.size:=by simp
 rw[Qi,hn] at hsn;have hfs:∀i,i<ops.size->∃o wt,ops.toList[i]? =some o/\Sn ops.toList (s i).1 o=some wt/\fs.getD i SH=aU E ops.toList (s i).1 o wt/\Tf E S ops.toList base i (s i).1 (s i).2=some (s (i+1)):=by intro i hi;obtain⟨g1,o,wt,g2,g3,g4⟩:=hs i (Qk _) (by omega);exact⟨o,wt,g2,g3,by simp only[Nat.sub_zero] at g4;simp[List.getD,g4],g1⟩
 have hself:∀i,i<ops.size->∀k,¬(fs.getD i SH).W k->Ag k (s i) (s (i+1)):=by intro i hi k hk;obtain⟨o,wt,g1,g2,g3,g4⟩:=hfs i hi;rw[g3] at hk;obtain⟨_,_,_,_,h4⟩:=rz g1 g2 g4 (s i) (fun k _=>.refl k _);exact h4 k hk
 have hap:∀i j,i<ops.size->j<i->((Vm ops.toList).getD i 0).testBit j=true\/((∀k,¬((fs.getD i SH).W k/\(fs.getD j SH).T k))/\∀k,¬((fs.getD j SH).W k/\(fs.getD i SH).T k)):=by intro i j hi hj;simp only[Z8,P7] at hP;have:=hP i (by simp;omega) j (by simpa using hj);simp only[QE] at this;refine this.imp id (fun h=>?_);simp only[tL,Pz,Qy] at h;exact⟨AA h.1,AA h.2⟩
 have key:=Ai (X:=Fr×qd) (Key:=Key) ops.size (fun i x=>Tf E S ops.toList base i x.1 x.2) Ag Ag.refl (fun k x y z=>Ag.trans) s
  (fun i=>(fs.getD i SH).T) (fun i=>(fs.getD i SH).W) (fun i k=>RV.Av)
  (fun i hi x hx=>by obtain⟨o,wt,g1,g2,g3,g4⟩:=hfs i hi;obtain⟨y,h1,h2,h3,_⟩:=rz g1 g2 g4 x (fun k hk=>hx k (by rw[g3];exact hk));exact⟨y,h1,fun k hk=>h2 k (by rw[<-g3];exact hk),fun k hk=>h3 k (by rw[<-g3];exact hk)⟩)
  hself (fun j i=>((Vm ops.toList).getD i 0).testBit j=true) hap (fun k x y=>Ag.symm)
  l [] (fr,Y) hl.nodup hl.mem hl.all (fun l1 i l2 h j hj=>.inr (vM dF hl i l1 l2 h j hj)) (fun i hi=>by cases hi)
  (by
    intro k m;induction m with
    |zero=>intro _ _;rw[hs0];exact .refl _ _|succ m ih=>intro hm hj;refine Ag.trans (Ag.symm (hself m (by omega) k (fun hw=>?_))) (ih (by omega) (fun j hjn hw=>⟨(fun h=>by cases h),(fun h=>by have:=(hj j hjn hw).2 (by omega);cases this)⟩));have:=(hj m (by omega) hw).2 (by omega);cases this)
 obtain⟨y,h1,h2⟩:=key;rw[vL] at h1;have:=Ag.all h2;rw[hsn] at this;rw[h1,<-this]
theorem Jv {ops:Array Oper}{base:Nat}{x y:Fr×qd}(hF:Free E S (Vm ops.toList) ops.toList base x y)(dF:Vw ops.toList=true){md:Region.Mode}{l:List Nat}(hl:jF md ops [] l):
 opsL E S ops.toList base l x.1 x.2=some y:=by
 obtain⟨s,T,W,h0,hn,oV,hloc,hself,hap⟩:=hF;have hsz:ops.toList.length=ops.size:=by simp
 rw[hsz] at hn hloc hself hap;obtain⟨z,h1,h2⟩:=Ai (X:=Fr×qd) (Key:=Key) ops.size (fun i x=>Tf E S ops.toList base i x.1 x.2) Ag Ag.refl (fun k x y z=>Ag.trans) s T W oV
  hloc hself (fun j i=>((Vm ops.toList).getD i 0).testBit j=true) hap (fun k x y=>Ag.symm)
  l [] x hl.nodup hl.mem hl.all (fun l1 i l2 h j hj=>.inr (vM dF hl i l1 l2 h j hj)) (fun i hi=>by cases hi)
  (by
    intro k m;induction m with
    |zero=>intro _ _;rw[h0];exact .refl _ _|succ m ih=>intro hm hj;refine Ag.trans (Ag.symm (hself m (by omega) k (fun hw=>?_))) (ih (by omega) (fun j hjn hw=>⟨(fun h=>by cases h),(fun h=>by have:=(hj j hjn hw).2 (by omega);cases this)⟩));have:=(hj m (by omega) hw).2 (by omega);cases this)
 rw[vL] at h1;have:=Ag.all h2;rw[hn] at this;rw[h1,<-this]
end
section
variable {E:Env}{S:R7}{B0:Nat}{Y Y':qd}{K K':Ra}{w w':World}{fr fr':Fr}{a:Act}{n:Nat}
theorem Jw (hE:TR E)(hS:Sound E S){id:Nat}{ops:Array Oper}{dr:Bool}{e:Ex}(h:RB E S (.region id ops dr) fr Y=some (e,fr',Y')):dJ E (.region id ops dr) fr Y e fr' Y':=by
 have fin:∀(l:List Nat),opsL E S ops.toList Y.next l fr {Y with next:=Y.next+ops.toList.length}=some (fr',Y')->l.Nodup->(∀i∈l,i<ops.size)->∀ro B0 K w a n ds Q,St E B0 Y K w fr a n ds->aK n (.region id ops dr)=true->
  (∀x a' w',jA E B0 n ds Y K w .normal fr' Y' x a' w'->Q x a' w')->wpOpsIn (FW ro) 0 E.P ops Q l a w:=by
  intro l hl hnd hlt ro B0 K w a n ds Q hs hok hq;have hnx:=j6 hS _ _ _ _ _ hl;simp only at hnx;have hs':St E B0 {Y with next:=Y.next+ops.toList.length} K w fr a n ds:=⟨lF hs.ok _,hs.hB,hs.fr,hs.sz,hs.df,fun s h=>PV (hs.st s h) (PN _ _),hs.hD⟩;refine vv hE hS ops Y.next hok ro _ l fr _ K w a hl hnd hlt hs' (by simp) (fun i _ hA=>by have:=hs.st _ hA;omega) (fun a' K' w' hs2 st=>hq _ _ _ ?_);refine⟨trivial,K',hs2,?_⟩;have st':Step E B0 (newer Y Y') {Y with next:=Y.next+ops.toList.length} K w Y' K' w':=st.mono (fun s hs=>by
   rcases hs with h|h
   .exact⟨h.1,by simp at hnx;omega⟩
   .refine⟨PD (PN _ _) h.1,h.2⟩)
  exact⟨st'.ok,st'.ext,st'.below,st'.D,st'.A,st'.nI,st'.fU⟩
 simp only[RB] at h;split at h
 .rename_i hdr;simp only[iP] at h;obtain⟨⟨fs,Rb,Y1⟩,hF,h⟩:=h;have hall:Rb=fr'/\Y1=Y'/\e= .normal/\Vw ops.toList=true/\∀md l,jF md ops [] l->opsL E S ops.toList Y.next l fr {Y with next:=Y.next+ops.toList.length}=some (fr',Y'):=by
   split at h
   .rename_i mW;simp only[iE,iR] at h;obtain⟨rfl,rfl,rfl⟩:=h;simp only[Pz] at mW;exact⟨rfl,rfl,rfl,mW.1,fun md l hl=>Ju hF mW.1 mW.2 hl⟩
   .unfold tO at h;split at h
    .rename_i hfree;simp only[iE,iR] at h;obtain⟨rfl,rfl,rfl⟩:=h;exact⟨rfl,rfl,rfl,hfree.1,fun md l hl=>Jv hfree.2 hfree.1 hl⟩
    .cases h
  obtain⟨rfl,rfl,rfl,mW,qV⟩:=hall;have hany:∀t,∃md,jF md ops [] (Region.schedule (E.P.follows .mixedOrders) ops t):=fun t=>Az hE.mixed _ mW t;have hdo:∀t,opsL E S ops.toList Y.next (Region.schedule (E.P.follows .mixedOrders) ops t) fr {Y with next:=Y.next+ops.toList.length}=some (Rb,Y1):=fun t=>by obtain⟨md,hl⟩:=hany t;exact qV md _ hl
  have hnx:=j6 hS _ _ _ _ _ (hdo 0);simp only at hnx;refine⟨PD (PN _ _) hnx,fun ro B0 K w a n ds hs hok _=>?_⟩;rw[hdr];refine wpIn_region_draw (fun t=>?_);obtain⟨md,hl⟩:=hany t;have hst:=Step.same (new:=newer Y Y) hs.ok (w':={w with drawn:=w.drawn+1}) rfl rfl rfl rfl;have hs1:St E B0 Y K {w with drawn:=w.drawn+1} fr a n ds:=⟨hst.ok,hs.hB,hs.fr.ext hst.ext,hs.sz,hs.df,hs.st,hs.hD⟩;refine fin _ (hdo t) hl.nodup (fun i hi=>(hl.mem i hi).1) ro B0 K _ a n ds _ hs1 (by rw[hdr];exact hok) ?_;rintro x a' w' ⟨h1,K',h2,h3⟩;exact⟨h1,K',h2,hst.widen h3 (mF _) (PD (PN _ _) hnx)⟩
 .rename_i hdr;have hdr':dr=false:=by simpa using hdr
  simp only[Py,iR] at h;obtain⟨⟨Rb,Y1⟩,hF,rfl,rfl,rfl⟩:=h;rw[Ah] at hF;have hnx:=j6 hS _ _ _ _ _ hF;simp only at hnx;refine⟨PD (PN _ _) hnx,fun ro B0 K w a n ds hs hok _=>?_⟩;rw[hdr'];exact wpIn_region (fin _ hF List.nodup_range (fun i hi=>by simpa using hi) ro B0 K w a n ds _ hs (by rw[hdr'];exact hok) (fun _ _ _ h=>h))
end
section
variable {E:Env}{S:R7}{K K':Ra}{w w':World}{Y Y':qd}{B0:Nat}
theorem mX (K:Ra)(T:Nat->Nat)(w:World)(D':Nat->Prop):Ext K T w {K with D:=D'} T w:=
 ⟨fun _ h=>⟨h,rfl,rfl,rfl⟩,fun _ _=>.inl ⟨rfl,rfl,rfl,rfl⟩,fun _ _ h=>⟨h,rfl⟩,fun _ h=>⟨h,rfl⟩⟩
theorem au.kr (h:au E B0 Y K w)(D':Nat->Prop)(hD:∀b,D' b->w.heap[b]? =some (.deferred (some []))):au E B0 Y {K with D:=D'} w:=by
 have e:=mX K Y.top w D';refine⟨fun loc s ob hs=>?_,h.own,h.I,h.IM,fun l r hl=>?_,fun g cs hg=>(h.glob g cs hg).ext e,h.rb,hD⟩
 .obtain⟨a1,a2,a3⟩:=h.obj loc s ob hs;exact⟨a1,a2.ext e a1 (fun _=>rfl),a3⟩
 .obtain⟨a1,a2⟩:=h.loop l r hl;exact⟨a1,a2.ext e a1 rfl rfl⟩
theorem au.mY (h:au E B0 Y K w)(hB:B0<=w.heap.size){new:Nat->Prop}{b:Nat}{o o':Obj}(hb0:B0<=b)(hb:w.heap[b]? =some o)(hc:∀vals t f,o≠ .cells vals t f)(hm:∀es aG,o≠ .map es aG)(Jy:∀l r,Y'.loops l=some r->Y.loops l=some r/\K.lp l≠b)(h1:Y'.obj=Y.obj)(h2:Y'.top=Y.top)(D':Nat->Prop)(hD:∀x,D' x->K.D x/\x≠b)(Jz:∀x,K.D x->D' x):
 Step E B0 new Y K w Y' {K with D:=D'} (w.putObj b o')/\au E B0 Y' {K with D:=D'} (w.putObj b o'):=by
 have hlt:=lt_of_heap hb;have ho:=uV w b o';have hcell:∀b' i v,w.cell? (at_ b' i)=some v->b'≠b:=fun b' i v hv e=>by
  subst e;have:∃vals t f,o= .cells vals t f:=by simp only[World.cell?,hb] at hv;cases o<;>simp at hv;exact⟨_,_,_,rfl⟩
  obtain⟨vals,t,f,rfl⟩:=this;exact hc _ _ _ rfl
 have e:Ext K Y.top w {K with D:=D'} Y'.top (w.putObj b o'):=by
  rw[h2];refine⟨fun _ h=>⟨h,rfl,rfl,rfl⟩,fun _ _=>.inl ⟨rfl,rfl,rfl,rfl⟩,fun b' i hi=>⟨hi,?_⟩,fun b' hi=>⟨hi,?_⟩⟩
  .obtain⟨⟨v,hv⟩,_⟩:=h.I b' i hi;exact cell_of_heap (ho.block b' (hcell b' i v hv) (lt_of_cell hv))
  .obtain⟨⟨es,aG,hv⟩,_⟩:=h.IM b' hi;exact ho.block b' (eD hv hb (fun e=>hm _ _ e.symm)) (lt_of_heap hv)
 have ok:au E B0 Y' {K with D:=D'} (w.putObj b o'):=by
  refine h.upd (Y':=Y') ho e (fun _ _=>rfl) (fun r hr'=>⟨by simpa using hlt,hb0⟩) ?_ ?_ ?_ ?_ ?_ ?_
  .intro loc s ob hs;rw[h1] at hs;refine .inl ⟨hs,fun cu e'=>?_⟩;obtain⟨_,a2,_⟩:=h.obj loc s ob hs;cases ob with
   |cells cs=>obtain⟨_,vals,t,g1,_⟩:=a2.2 (by cases cs with|nil=>exact cu.elim|cons _ _=>simp);rw[e',hb] at g1;exact hc _ _ _ (P9 g1)
   |map ks vs=>obtain⟨_,es,aG,g1,_⟩:=a2;rw[e',hb] at g1;exact hm _ _ (P9 g1)
  .intro s hs hlt';refine .inl ⟨hs,rfl,rfl,rfl,fun e'=>?_⟩;obtain⟨_,⟨v,hv⟩,_⟩:=(h.own s hs hlt').2.2 (K.lo s) (mF _) hlt';exact hcell _ _ _ hv e'
  .intro b' i hi;obtain⟨⟨v,hv⟩,_⟩:=h.I b' i hi;exact .inl ⟨hi,hcell b' i v hv⟩
  .intro b' hi;obtain⟨⟨es,aG,hv⟩,_⟩:=h.IM b' hi;exact .inl ⟨hi,eD hv hb (fun e=>hm _ _ e.symm)⟩
  .intro l r hl;exact .inl (Jy l r hl)
  .intro b' hd;exact .inl (hD b' hd)
 exact⟨⟨ok,e,ho.below hb0 hB,Jz,fun _ h=>.inl h,fun _ _ h=>.inl h,fun _ h=>.inl h⟩,ok⟩
theorem Step.AL (h:au E B0 Y K w)(hB:B0<=w.heap.size){new:Nat->Prop}:
 Step E B0 new Y K w Y {K with D:=fun b=>K.D b\/b=w.heap.size} (w.alloc (.deferred (some []))):=by
 have ho:=kV w (.deferred (some []));have e:Ext K Y.top w {K with D:=fun b=>K.D b\/b=w.heap.size} Y.top (w.alloc (.deferred (some []))):=by
  refine⟨fun _ h=>⟨h,rfl,rfl,rfl⟩,fun _ _=>.inl ⟨rfl,rfl,rfl,rfl⟩,fun b' i hi=>⟨hi,?_⟩,fun b' hi=>⟨hi,?_⟩⟩
  .obtain⟨⟨v,hv⟩,_⟩:=h.I b' i hi;rw[hv];exact qD hv
  .obtain⟨⟨es,aG,hv⟩,_⟩:=h.IM b' hi;exact heap_alloc_old (lt_of_heap hv)
 refine⟨?_,e,ho.below hB hB,fun _ h=>.inl h,fun _ h=>.inl h,fun _ _ h=>.inl h,fun _ h=>.inl h⟩;refine h.upd (Y':=Y) ho e (fun _ _=>rfl) (fun r hr'=>⟨by simp,hB⟩) ?_ ?_ ?_ ?_ ?_ ?_
 .intro loc s ob hs;refine .inl ⟨hs,fun hr=>?_⟩;have:=(h.rb _ _ ((h.obj _ _ _ hs).2.2 hr)).1;omega
 .intro s hs hlt';have:=(h.rb _ _ (h.own s hs hlt').2.1).1;exact .inl ⟨hs,rfl,rfl,rfl,by omega⟩
 .intro b' i hi;obtain⟨⟨v,hv⟩,_⟩:=h.I b' i hi;exact .inl ⟨hi,Qh (lt_of_cell hv)⟩
 .intro b' hi;obtain⟨⟨es,aG,hv⟩,_⟩:=h.IM b' hi;exact .inl ⟨hi,Qh (lt_of_heap hv)⟩
 .intro l r hl;have:=(h.rb _ _ (h.loop l r hl).2.2.1).1;exact .inl ⟨hl,by omega⟩
 .intro b' hd;rcases hd with hd|rfl
  .exact .inl ⟨hd,Qh (lt_of_heap (h.D b' hd))⟩
  .exact .inr ⟨rfl,heap_alloc_new _ _⟩
def Ra.lK (K:Ra)(st b:Nat):Ra:=
 {K with A:=fun s=>K.A s\/s=st,lo:=upd K.lo st 0,hi:=upd K.hi st 0,lp:=upd K.lp st b,Z:=upd K.Z b (some (.loop st))}
theorem Step.AO (h:au E B0 Y K w)(hB:B0<=w.heap.size)(hst:¬K.A Y.next){fr:Fr}{tmps:Array Value}{ps:List Nat}{aF body:Code}{fn:FuncId}{D:Nat}(hf:bH K Y.top w fr tmps)(hok1:aK tmps.size aF=true)(hok2:aK tmps.size body=true)(hps:∀p∈ps,p<tmps.size)(hn1:bq aF=true)(hn2:bq body=true):
 Step E B0 (· =Y.next) Y K w ({Y with next:=Y.next+1}.aO Y.next {st:=0,pend:=none,fr:=fr,ps:=ps,aF:=aF,body:=body}) (K.lK Y.next w.heap.size)
  (w.alloc (.loop {state:=.ready,pending:=none,fn:=fn,tmps:=tmps,params:=ps.toArray,assign:=aF,body:=body,defers:=D})):=by
 generalize hrec:({state:=.ready,pending:=none,fn:=fn,tmps:=tmps,params:=ps.toArray,assign:=aF,body:=body,defers:=D}:Go.Loop)=rec;have ho:=kV w (.loop rec);have hne:∀s,K.A s->s≠Y.next:=fun s hs e=>hst (e▸hs);have e:Ext K Y.top w (K.lK Y.next w.heap.size) Y.top (w.alloc (.loop rec)):=by
  refine⟨fun s hs=>⟨.inl hs,rfl,upd_ne _ _ (hne s hs),rfl⟩,fun s hs=>.inl ⟨rfl,rfl,upd_ne _ _ (hne s hs),upd_ne _ _ (hne s hs)⟩,fun b' i hi=>⟨hi,?_⟩,fun b' hi=>⟨hi,?_⟩⟩
  .obtain⟨⟨v,hv⟩,_⟩:=h.I b' i hi;rw[hv];exact qD hv
  .obtain⟨⟨es,aG,hv⟩,_⟩:=h.IM b' hi;exact heap_alloc_old (lt_of_heap hv)
 refine⟨?_,e,ho.below hB hB,fun _ h=>h,fun _ h=>h,fun _ _ h=>.inl h,fun _ h=>.inl h⟩;refine h.upd (Y':=({Y with next:=Y.next+1}.aO Y.next {st:=0,pend:=none,fr:=fr,ps:=ps,aF:=aF,body:=body})) ho e (fun k hk=>upd_ne _ _ hk) (fun r hr'=>⟨by simp,hB⟩) ?_ ?_ ?_ ?_ ?_ ?_
 .intro loc s ob hs;have hs':Y.obj loc=some (s,ob):=hs;refine .inl ⟨hs',fun hr=>?_⟩;have:=(h.rb _ _ ((h.obj _ _ _ hs').2.2 hr)).1;omega
 .intro s hs hlt';have hs':s≠Y.next:=by rintro rfl;simp only[Ra.lK,upd_same] at hlt';omega
  have hA:K.A s:=hs.resolve_right hs';simp only[Ra.lK,upd_ne _ _ hs'] at hlt';have:=(h.rb _ _ (h.own s hA hlt').2.1).1;exact .inl ⟨hA,upd_ne _ _ hs',upd_ne _ _ hs',rfl,by omega⟩
 .intro b' i hi;obtain⟨⟨v,hv⟩,_⟩:=h.I b' i hi;exact .inl ⟨hi,Qh (lt_of_cell hv)⟩
 .intro b' hi;obtain⟨⟨es,aG,hv⟩,_⟩:=h.IM b' hi;exact .inl ⟨hi,Qh (lt_of_heap hv)⟩
 .intro l r hl;by_cases hll:l=Y.next
  .subst hll;right;have hr:r={st:=0,pend:=none,fr:=fr,ps:=ps,aF:=aF,body:=body}:=by simpa [qd.aO,upd] using hl.symm
   subst hr;have hlp:(K.lK Y.next w.heap.size).lp Y.next=w.heap.size:=upd_same _ _ _;refine⟨.inr rfl,by rw[hlp];exact hB,by rw[hlp];exact upd_same _ _ _,fn,tmps,D,?_,hf.ext e,hok1,hok2,hps,hn1,hn2⟩;rw[hlp,heap_alloc_new,<-hrec];rfl
  .left;have hl1:Y.loops l=some r:=by simpa [qd.aO,upd,hll] using hl
   have:=(h.rb _ _ (h.loop l r hl1).2.2.1).1;exact⟨hl1,by omega⟩
 .intro b' hd;exact .inl ⟨hd,Qh (lt_of_heap (h.D b' hd))⟩
theorem JA (hE:TR E)(hS:Sound E S){f:Operand}{ps:Array Tmp}{aF body:Code}{fr fr':Fr}{e:Ex}(h:RB E S (.rangeFunc f ps aF body) fr Y=some (e,fr',Y')):dJ E (.rangeFunc f ps aF body) fr Y e fr' Y':=by
 simp only[RB] at h;split at h
 .rename_i hfun;simp only[iP] at h;obtain⟨⟨v,Y3⟩,happ,r,hr,h⟩:=h;split at h
  .simp at h
  .rename_i hst;simp only[iE,iR] at h;obtain⟨he,rfl,rfl⟩:=h;have hfn:∃g a b,fr.ev E f= .fn (.func g) a b:=by
    generalize fr.ev E f=x at hfun;unfold kU at hfun;split at hfun
    .exact⟨_,_,_,rfl⟩
    .simp at hfun
   have hnext:Y.next+1<=Y3.next:=by
    obtain⟨g,a,b,hg⟩:=hfn;rw[hg] at happ;unfold bG at happ;dsimp only at happ;split at happ
    .exact(hS.call _ _ _ _ _ _ happ).1
    .simp only[iP] at happ;obtain⟨_,_,_,_,happ⟩:=happ;split at happ
     .simp only[iE,iR] at happ;rw[<-happ.2];exact mF _
     .simp at happ
   refine⟨PD (P8 _) hnext,fun ro B0 K w a n ds hs hok hnr=>?_⟩;have hro:ro=none/\ds.nm=false:=by
    rcases hnr with h|h
    .exact h
    .simp[bq] at h
   obtain⟨hro,hnm⟩:=hro;subst hro;simp only[aK,Pz,P7,decide_eq_true_eq] at hok;obtain⟨⟨⟨⟨hps,hok1⟩,hok2⟩,hn1⟩,hn2⟩:=hok;refine wpIn_rangeFunc (fun fn _=>?_);have st1:=Step.AL (new:=newer Y (Y3.dG Y.next)) hs.ok hs.hB;have hB1:=PD hs.hB st1.below.size;have hst:¬K.A Y.next:=fun hA=>Nat.lt_irrefl _ (hs.st _ hA);have hf1:bH {K with D:=fun b=>K.D b\/b=w.heap.size} Y.top (w.alloc (.deferred (some []))) fr a.tmps:=hs.fr.ext st1.ext;have st2:=Step.AO (fn:=fn) (D:=w.heap.size) (ps:=ps.toList) (aF:=aF) (body:=body) st1.ok hB1 hst hf1 (by rw[hs.sz];exact hok1) (by rw[hs.sz];exact hok2) (fun p hp=>by rw[hs.sz];exact hps p hp) hn1 hn2;have hsz1:(w.alloc (.deferred (some []))).heap.size=w.heap.size+1:=by simp
   generalize hK2:Ra.lK {K with D:=fun b=>K.D b\/b=w.heap.size} Y.next (w.alloc (.deferred (some []))).heap.size=K2 at st2;generalize hw2:(w.alloc (.deferred (some []))).alloc (.loop {state:=.ready,pending:=none,fn:=fn,tmps:=a.tmps,params:=ps.toList.toArray,assign:=aF,body:=body,defers:=w.heap.size})=w2 at st2;have rA:K2.lp Y.next=w.heap.size+1:=by rw[<-hK2,<-hsz1];exact upd_same _ _ _
   have hA2:K2.A Y.next:=by rw[<-hK2];exact .inr rfl
   have hf2:bH K2 Y.top w2 fr a.tmps:=hf1.ext st2.ext;have vP:∀s,K2.A s->s<Y.next+1:=fun s hsA=>by
    rcases st2.A s hsA with h1|h1
    .exact Nat.lt_succ_of_lt (hs.st s h1)
    .omega
   have hB2:=PD hB1 st2.below.size;have hra:RelA K2 Y.top w2 [.fn (.yield Y.next) [] []] #[.func (.yield (w.heap.size+1)) #[] #[]]:=by refine⟨rfl,fun i hi=>?_⟩;have hi0:i=0:=(by simpa using hi);subst hi0;have:=Rel.yield (K:=K2) (T:=Y.top) (w:=w2) Y.next hA2;rw[rA] at this;exact this
   obtain⟨_,g,first,cap,hcf,hbody,hcall⟩:=Af hE hS.call st2.ok hB2 vP hfn happ (fV st2.ok hf2 f) hra;have henter:=run_enterLoop_outer (P:=E.P) (w:=w) fn a.tmps ps aF body;have vQ:(w.alloc (.deferred (some []))).alloc (.loop {state:=.ready,pending:=none,fn:=fn,tmps:=a.tmps,params:=ps,assign:=aF,body:=body,defers:=w.heap.size})=w2:=by rw[<-hw2]
   rw[vQ] at henter;refine⟨w.heap.size+1,[mark w.heap.size],w2,{target:=.fn (.func g) cap,args:=first++ #[.func (.yield (w.heap.size+1)) #[] #[]]},w2,g,first++ #[.func (.yield (w.heap.size+1)) #[] #[]]++cap,w2,henter,?_,fun _ _=>trivial,?_,
    fun hd=>by simp[FW,Fence.wide] at hd,?_⟩
   .unfold resolve;have hargs:(rangeCall f (w.heap.size+1)).args.map a.eval= #[.func (.yield (w.heap.size+1)) #[] #[]]:=(by simp[rangeCall,Act.eval]);rw[hargs];simp only[rangeCall,hcf,Deferred.ofValue,Sem.run_pure]
   .simp only[invoke];exact mR hE hbody _ _
   .have vR:CallsIn (FW none) (0-1) E.P g (first++ #[.func (.yield (w.heap.size+1)) #[] #[]]++cap) w2 _:=hcall;refine vR.mono ?_;intro en w3 hp;cases en with
    |panicked ch=>exact hp.elim|outgrown=>exact hp.elim|returned cv=>
     obtain⟨K3,r3,lM,hA3,dW⟩:=hp;obtain⟨Pn,hb3,JB,JC,JD,D3,hh3,hf3,_⟩:=lM.loop Y.next r hr;have jD:K3.lp Y.next=w.heap.size+1:=((dW.ext.A Y.next hA2).2.2.1).trans rA;have hend:=run_endLoop (P:=E.P) hh3 (by
      show dV r.st≠ .busy;unfold dV;split
      .simp
      .simp[hst])
     rw[jD] at hend;have hB3:=PD hB2 dW.below.size;have hput:=au.mY (Y':=Y3.dG Y.next) (new:=newer Y (Y3.dG Y.next)) (o':=.loop {state:=.exhausted,pending:=r.pend.bind eB,fn:=JC,tmps:=JD,params:=r.ps.toArray,assign:=r.aF,body:=r.body,defers:=D3}) lM hB3 hb3 hh3 (fun _ _ _=>by simp) (fun _ _=>by simp)
      (fun l r1 hl=>by have hll:l≠Y.next:=(by rintro rfl;simp[qd.dG,upd] at hl);have hl1:Y3.loops l=some r1:=(by simpa [qd.dG,upd,hll] using hl);refine⟨hl1,fun e'=>?_⟩;have:=(lM.loop l r1 hl1).2.2.1;rw[e',JB] at this;cases this;exact hll rfl) rfl rfl K3.D (fun x hx=>⟨hx,eD (lM.D x hx) hh3 (by simp)⟩) (fun _ h=>h)
     have pE:({K3 with D:=K3.D}:Ra)=K3:=rfl;rw[pE] at hput;obtain⟨mZ,rC⟩:=hput;rw[jD] at mZ rC;have JE:(Y3.dG Y.next).next=Y3.next:=rfl;have fI:=Step.trans (new:=newer Y (Y3.dG Y.next)) st1 ((st2.mono (fun s hs'=>by subst hs';exact⟨mF _,by rw[JE];omega⟩)).trans ((dW.mono (fun s hs'=>by have h1:Y.next+1<=s:=hs'.1;exact⟨by omega,hs'.2⟩)).trans mZ));have mk:∀w4,au E B0 (Y3.dG Y.next) K3 w4->Step E B0 (newer Y (Y3.dG Y.next)) Y K w (Y3.dG Y.next) K3 w4->St E B0 (Y3.dG Y.next) K3 w4 fr {a with defers:=[mark w.heap.size]++a.defers} n ds:=by
      intro w4 rC fI;refine⟨rC,PD hs.hB fI.below.size,hs.fr.ext fI.ext,hs.sz,?_,hA3,PD hs.hD fI.below.size⟩;obtain⟨bs,d1,d2,d3,_⟩:=hs.df;refine⟨w.heap.size::bs,by simp[d1],?_,fun b hb=>?_,fun e=>by rw[hnm] at e;cases e⟩
      .refine Qf.2 ⟨fun hm=>?_,d2⟩;exact Nat.lt_irrefl _ (lt_of_heap (hs.ok.D _ (d3 _ hm).1))
      .rcases PG.1 hb with rfl|hb
       .exact⟨dW.D _ (st2.D _ (.inr rfl)),hs.hD⟩
       .exact⟨fI.D b (d3 b hb).1,(d3 b hb).2⟩
     have hSt:=mk _ rC fI;refine⟨_,_,hend,?_⟩;cases hp:r.pend with
     |none=>rw[hp] at he hSt fI;simp only[Option.bind_none];subst he;exact⟨trivial,K3,hSt,fI⟩|some e1=>
      rw[hp] at he hSt fI;simp only at he;subst he;cases e1 with
      |normal=>exact⟨trivial,K3,hSt,fI⟩|exit i=>exact wpIn_exit ⟨rfl,K3,hSt,fI⟩|ret=>exact wpIn_ret ⟨trivial,K3,hSt,fI⟩
 .simp at h
end
theorem exists_least {p:Nat->Prop}(h:∃n,p n):∃n,p n/\∀m,p m->n<=m:=by
 obtain⟨n,hn⟩:=h;induction n using Nat.strongRecOn with
 |_ n ih=>
  by_cases hm:∃m,m<n/\p m
  .obtain⟨m,hm1,hm2⟩:=hm;exact ih m hm1 hm2
  .exact⟨n,hn,fun m hm'=>Classical.byContradiction fun hlt=>hm ⟨m,by omega,hm'⟩⟩
open Classical in
noncomputable def least (p:Nat->Prop):Nat:=if h:∃n,p n then (exists_least h).choose else 0
theorem AP {p:Nat->Prop}(h:∃n,p n):p (least p)/\∀m,p m->least p<=m:=by unfold least;rw[dif_pos h];exact(exists_least h).choose_spec
theorem JF {F:Fence}{rm:Nat}{P:Program}{Q:Exit->Act->World->Prop}{a:Act}{w:World}{c:Code}(I:Nat->Act->World->Prop)(n₀:Nat)(h₀:I n₀ a w)(round:∀n a w,I n a w->c.wpIn F rm P (Exit.then (fun a' w'=>∃n',n'<n/\I n' a' w') Q) a w):(Code.loop c).wpIn F rm P Q a w:=by
 refine wpIn_loop (fun a w=>∃n,I n a w) (fun a w=>least (fun n=>I n a w)) ⟨n₀,h₀⟩ ?_;intro a w hI;refine wpIn_mono (round _ a w (AP hI).1) ?_;intro e a' w' hq;cases e with
 |normal=>obtain⟨n',hlt,hI'⟩:=hq;exact show (∃n,I n a' w')/\least (fun n=>I n a' w')<least (fun n=>I n a w) from ⟨⟨n',hI'⟩,Nat.lt_of_le_of_lt ((AP ⟨n',hI'⟩).2 n' hI') hlt⟩
 |exit id=>exact hq|goto l=>exact hq|ret=>exact hq|panic ch=>exact hq|outgrown=>exact hq
section
variable {E:Env}
def AQ (E:Env)(code:Code->Fr->qd->Option (Ex×Fr×qd))(c:Code):Prop:=∀fr Y e fr' Y',code c fr Y=some (e,fr',Y')->dJ E c fr Y e fr' Y'
theorem vS (hE:TR E)(n:Nat)(hS:∀m,m<=n->Sound E (Rh E m)):∀c,AQ E (RB E (Rh E n)) c:=by
 intro c;induction c with
 |skip=>intro fr Y e fr' Y' h;simp only[RB,iE,iR] at h;obtain⟨rfl,rfl,rfl⟩:=h;exact He
 |region id ops dr=>intro fr Y e fr' Y' h;exact Jw hE (hS n (mF _)) h|seq x y iK ihy=>
  intro fr Y e fr' Y' h;simp only[RB,iP] at h;obtain⟨⟨e1,Rb,Y1⟩,h1,h⟩:=h;cases e1 with
  |normal=>exact Hq (iK _ _ _ _ _ h1) (ihy _ _ _ _ _ h)|exit i=>simp only[iE,iR] at h;obtain⟨rfl,rfl,rfl⟩:=h;exact zV (by simp) (iK _ _ _ _ _ h1)
  |ret=>simp only[iE,iR] at h;obtain⟨rfl,rfl,rfl⟩:=h;exact zV (by simp) (iK _ _ _ _ _ h1)
 |cond c x y iK ihy=>
  intro fr Y e fr' Y' h;simp only[RB,iP] at h;obtain⟨t,ht,h⟩:=h;refine Hr ht ?_;cases t
  .exact ihy _ _ _ _ _ (by simpa using h)
  .exact iK _ _ _ _ _ (by simpa using h)
 |block id c ih=>
  intro fr Y e fr' Y' h;simp only[RB,Py] at h;obtain⟨⟨e1,Rb,Y1⟩,h1,h⟩:=h;have:=Ht (id:=id) (ih _ _ _ _ _ h1);cases e1 with
  |normal=>simp only[iR] at h;obtain⟨rfl,rfl,rfl⟩:=h;exact this
  |ret=>simp only[iR] at h;obtain⟨rfl,rfl,rfl⟩:=h;exact this
  |exit i=>
   simp only[uR] at this;simp only at h;split at h
   .rename_i hi;simp only[iR] at h;obtain⟨rfl,rfl,rfl⟩:=h
    rwa[if_pos hi] at this
   .rename_i hi;simp only[iR] at h;obtain⟨rfl,rfl,rfl⟩:=h
    rwa[if_neg hi] at this
 |loop c ih=>
  intro fr Y e fr' Y' h;have hm:(Rh E (n+1)).code (.loop c) fr Y=some (e,fr',Y'):=h;have hbody:∀k,k<=n->AQ E (RB E (Rh E k)) c:=by
   intro k hk;by_cases hkn:k=n
   .subst hkn;exact ih
   .intro fr Y e fr' Y' hc;exact(hS (k+1) (by omega)).code c fr Y e fr' Y' hc
  have hnext:∀(k:Nat)(fr:Fr)(Y:qd),k<=n+1->(Rh E k).code (.loop c) fr Y=some (e,fr',Y')->Y.next<=Y'.next:=by
   intro k;induction k with
   |zero=>intro fr Y _ hh;cases hh|succ k ihk=>
    intro fr Y hk hh;have hh':RB E (Rh E k) (.loop c) fr Y=some (e,fr',Y'):=hh;simp only[RB,iP] at hh';obtain⟨⟨e1,Rb,Y1⟩,h1,h2⟩:=hh';have hb:=(hbody k (by omega) _ _ _ _ _ h1).1;cases e1 with
    |normal=>exact PD hb (ihk Rb Y1 (by omega) h2)|exit i=>simp only[iE,iR] at h2;obtain⟨_,_,rfl⟩:=h2;exact hb
    |ret=>simp only[iE,iR] at h2;obtain⟨_,_,rfl⟩:=h2;exact hb
  refine⟨hnext (n+1) fr Y (mF _) hm,fun ro B0 K w a sz ds hs hok hnr=>?_⟩;refine JF (fun m a1 w1=>m<=n+1/\∃Rb Y1 K1,(Rh E m).code (.loop c) Rb Y1=some (e,fr',Y')/\St E B0 Y1 K1 w1 Rb a1 sz ds/\Step E B0 (newer Y Y1) Y K w Y1 K1 w1/\Y.next<=Y1.next) (n+1)
   ⟨mF _,fr,Y,K,hm,hs,.refl hs.ok,mF _⟩ ?_
  rintro m a1 w1 ⟨hmn,Rb,Y1,K1,hcode,hs1,st1,hle1⟩;cases m with
  |zero=>cases hcode|succ k=>
   have hh':RB E (Rh E k) (.loop c) Rb Y1=some (e,fr',Y'):=hcode;simp only[RB,iP] at hh';obtain⟨⟨e2,RX,Y2⟩,h1,h2⟩:=hh';obtain⟨hle2,hwp⟩:=hbody k (by omega) _ _ _ _ _ h1;refine wpIn_mono (hwp ro B0 K1 w1 a1 sz ds hs1 hok hnr) ?_;rintro x a2 w2 ⟨hx,K2,hs2,st2⟩;cases e2 with
   |normal=>
    cases x<;>simp only[bX] at hx;exact⟨k,Nat.lt_succ_self k,by omega,RX,Y2,K2,h2,hs2,st1.widen st2 hle1 hle2,PD hle1 hle2⟩
   |exit i=>simp only[iE,iR] at h2;obtain⟨rfl,rfl,rfl⟩:=h2;cases x<;>simp only[bX] at hx;exact⟨hx,K2,hs2,st1.widen st2 hle1 hle2⟩
   |ret=>simp only[iE,iR] at h2;obtain⟨rfl,rfl,rfl⟩:=h2;cases x<;>simp only[bX] at hx;exact⟨trivial,K2,hs2,st1.widen st2 hle1 hle2⟩
 |rangeFunc f ps x y=>intro fr Y e fr' Y' h;exact JA hE (hS n (mF _)) h|exit id=>intro fr Y e fr' Y' h;simp only[RB,iE,iR] at h;obtain⟨rfl,rfl,rfl⟩:=h;exact Hf id
 |scope c ih=>intro fr Y e fr' Y' h;simp only[RB] at h;exact Ho (ih _ _ _ _ _ h)|label l=>intro fr Y e fr' Y' h;simp only[RB,iE,iR] at h;obtain⟨rfl,rfl,rfl⟩:=h;exact Hl l
 |goto l=>intro fr Y e fr' Y' h;simp[RB] at h|ret=>intro fr Y e fr' Y' h;simp only[RB,iE,iR] at h;obtain⟨rfl,rfl,rfl⟩:=h;exact Hg
 |refuse why=>intro fr Y e fr' Y' h;simp[RB] at h
variable {B0:Nat}{Y:qd}{K:Ra}{w:World}{fr:Fr}
def pF (tmps:Array Value):ResultVar->Sem Value
 |.tmp t=>pure (tmps.getD t undef)|.cell a t=>do loadVar t (<-asAddr (tmps.getD a undef))
theorem JG (h:au E B0 Y K w){tmps:Array Value}(hf:bH K Y.top w fr tmps){r:ResultVar}{v:V}(hv:TJ E fr Y r=some v):
 ∃c,(pF tmps r).run E.P w= .ok c w/\Rel K Y.top w v c:=by
 cases r with
 |tmp t=>simp only[TJ,iE] at hv;subst hv;exact⟨_,rfl,hf t⟩|cell a t=>
  simp only[TJ] at hv;have ha:=hf a;cases hx:fr.tm a with
  |ref loc s off=>
   rw[hx] at hv ha;simp only at hv;obtain⟨c,h1,h2⟩:=uD h (t:=t) ha (v:=v) hv;simp only[pF];generalize tmps.getD a undef=ca at h1 ha;cases ha with
   |ref _ _ _ hA=>refine⟨c,?_,h2⟩;simpa [Instr.loadAt,Instr.sureAddr,asAddr] using h1
  |_=>rw[hx] at hv;simp at hv
theorem AU (h:au E B0 Y K w){tmps:Array Value}(hf:bH K Y.top w fr tmps):∀(rs:List ResultVar)(vs:List V),rs.mapM (TJ E fr Y)=some vs->
 ∃cs:List Value,(rs.mapM (pF tmps)).run E.P w= .ok cs w/\vs.length=cs.length/\
  ∀i,i<vs.length->Rel K Y.top w (vs.getD i FN) (cs.getD i undef):=by
 intro rs;induction rs with
 |nil=>intro vs hv;simp at hv;subst hv;exact⟨[],by simp,rfl,fun i hi=>absurd hi (PS i)⟩
 |cons r rs ih=>
  intro vs hv;simp only[PW,Option.pure_def,Option.bind_eq_bind,iP,iE] at hv;obtain⟨v,h1,vs',h2,rfl⟩:=hv;obtain⟨c,g1,g2⟩:=JG h hf h1;obtain⟨cs,k1,k2,k3⟩:=ih vs' h2;refine⟨c::cs,?_,by simp[k2],fun i hi=>?_⟩
  .simp only[PW,Sem.run_bind,g1,Result.andThen_ok,k1,Sem.run_pure]
  .cases i with
   |zero=>exact g2|succ i=>exact k3 i (by simpa using hi)
theorem AV {fn:Func}{tmps:Array Value}{R:Ending->World->Prop}{B1:Nat}(hB1:B0<=B1)(KD:Nat->Prop):∀(bs:List Nat)(K:Ra)(w:World),au E B0 Y K w->B0<=w.heap.size->bs.Nodup->(∀b∈bs,K.D b/\B1<=b)->(∀b,KD b->K.D b)->(∀b,KD b->b<B1)->(∀w1,Step E B0 (fun _=>False) Y {K with D:=KD} w Y {K with D:=KD} w1->LeavesIn Fence.wide 0 E.P fn tmps R [] .returning w1)->LeavesInM Fence.wide 0 E.P fn tmps R (bs.map mark) .returning w:=by
 intro bs;induction bs with
 |nil=>intro K w h _ _ _ hk _ hl;refine hl w (.refl (h.kr KD (fun b hb=>h.D b (hk b hb))))
 |cons b bs ih=>
  intro K w h hB hnd hbs hk hlt hl;obtain⟨hb,ng⟩:=hbs b (by simp);have hheap:=h.D b hb;have hput:=au.mY (Y':=Y) (new:=fun _=>False) (o':=.deferred none) h hB (PD hB1 ng) hheap (fun _ _ _=>by simp) (fun _ _=>by simp)
   (fun l r hl=>by obtain⟨_,_,_,_,_,_,hh,_⟩:=h.loop l r hl;exact⟨hl,eD hh hheap (by simp)⟩) rfl rfl
  have ok1:au E B0 Y {K with D:=fun x=>K.D x/\x≠b} (w.putObj b (.deferred none)):=by
   have ho:=uV w b (.deferred none);have h0:au E B0 Y {K with D:=fun _=>False} w:=h.kr _ (fun b hb=>hb.elim);have hp:=(au.mY (Y':=Y) (new:=fun _=>False) (o':=.deferred none) h0 hB (PD hB1 ng) hheap (fun _ _ _=>by simp) (fun _ _=>by simp)
    (fun l r hl=>by obtain⟨_,_,_,_,_,_,hh,_⟩:=h.loop l r hl;exact⟨hl,eD hh hheap (by simp)⟩) rfl rfl (fun _=>False) (fun x hx=>hx.elim) (fun _ h=>h)).2
   exact hp.kr (fun x=>K.D x/\x≠b) (fun x hx=>by rw[World.putObj_heap_other hx.2];exact h.D x hx.1)
  refine⟨by simp,.inl ⟨b,w.putObj b (.deferred none),rfl,run_takeDeferred hheap,?_⟩⟩;refine ih {K with D:=fun x=>K.D x/\x≠b} (w.putObj b (.deferred none)) ok1 (by simpa using hB) (Qf.1 hnd).2
   (fun x hx=>⟨⟨(hbs x (by simp[hx])).1,fun e=>(Qf.1 hnd).1 (e▸hx)⟩,(hbs x (by simp[hx])).2⟩) (fun x hx=>⟨hk x hx,fun e=>by have:=hlt x hx;omega⟩) hlt (fun w1 st=>hl w1 ?_)
  have pE:au E B0 Y {K with D:=KD} w:=h.kr KD (fun b hb=>h.D b (hk b hb));have st0:=(au.mY (Y':=Y) (new:=fun _=>False) (o':=.deferred none) pE hB (PD hB1 ng) hheap (fun _ _ _=>by simp) (fun _ _=>by simp)
   (fun l r hl=>by obtain⟨_,_,_,_,_,_,hh,_⟩:=h.loop l r hl;exact⟨hl,eD hh hheap (by simp)⟩) rfl rfl KD (fun x hx=>⟨hx,fun e=>by have h1:x<B1:=hlt x hx;omega⟩) (fun _ h=>h)).1
  exact st0.trans st
theorem JH (n:Nat)(hS:iY E (Rh E n).code):kY E (jT E (Rh E n)):=by
 intro f args d Y v Y' h;simp only[jT,iP] at h;obtain⟨fn,hfn,c,hc,h⟩:=h;split at h
 .rename_i hok;simp only[iP] at h;obtain⟨⟨e,Rb,Y1⟩,hcode,h⟩:=h;have hne:e= .normal\/e= .ret:=by
   cases e with
   |normal=>exact .inl rfl|ret=>exact .inr rfl|exit i=>simp at h
  have h':(fn.results.toList.mapM (TJ E Rb Y1)).map (fun vs=>(match vs with| [v]=>v|vs=>.Rm vs,Y1))=some (v,Y'):=by rcases hne with rfl|rfl<;>exact h
  simp only[Py,iR] at h';obtain⟨vs,hvs,hv,rfl⟩:=h';obtain⟨hle,hwp⟩:=hS _ _ _ _ _ _ hcode;refine⟨hle,⟨fn,c,hfn,hc⟩,fun ro B0 K w Ru hs hB hA hr=>?_⟩;have hsz:Ru.size=args.length:=hr.1.symm;have hst:St E B0 Y K w {d:=d,om:=E.om f,tm:=fun i=>args.getD i FN} {tmps:=Ru++Array.replicate (fn.ntmps-Ru.size) undef,defers:=[]} fn.ntmps ⟨[],w.heap.size,false⟩:=by
   refine⟨hs,hB,fun t=>?_,by simp;omega,⟨[],rfl,List.nodup_nil,(fun b hb=>by cases hb),fun _=>rfl⟩,hA,mF _⟩;show Rel K Y.top w (args.getD t FN) _;by_cases ht:t<args.length
   .have e1:(Ru++Array.replicate (fn.ntmps-Ru.size) undef).getD t undef=Ru.getD t undef:=(by simp only[QB];rw[Array.getElem?_append_left (by omega)]);rw[e1];exact hr.2 t ht
   .have e1:(Ru++Array.replicate (fn.ntmps-Ru.size) undef).getD t undef=undef:=(by simp only[QB];rw[Array.getElem?_append_right (by omega),Array.getElem?_replicate];split<;>rfl);have e2:args.getD t FN=FN:=(by simp[List.getD,List.getElem?_eq_none (Nat.le_of_not_lt ht)]);rw[e1,e2];exact .undef _ _ _
  have hwp':=hwp none B0 K w _ fn.ntmps ⟨[],w.heap.size,false⟩ hst hok.2 (.inl ⟨rfl,rfl⟩);have pG:CallsIn Fence.wide 0 E.P f Ru w (gq E B0 Y K w v Y1):=by
   refine callsIn_of_wp_marks hfn hc trivial (wpIn_mono hwp' ?_);rintro x a' w' ⟨hx,K',hs',st'⟩;have hleave:LeavesInM Fence.wide 0 E.P fn a'.tmps (gq E B0 Y K w v Y1) a'.defers .returning w':=by
    obtain⟨bs,d1,d2,d3,_⟩:=hs'.df;rw[d1,Qx];refine AV (B1:=w.heap.size) hB K.D bs K' w' hs'.ok hs'.hB d2 d3 st'.D (fun b hb=>lt_of_heap (hs.D b hb)) (fun w1 gy=>?_);have lN:=gy.ok;have hf2:bH {K' with D:=K.D} Y1.top w1 Rb a'.tmps:=(by have e1:Ext K' Y1.top w' {K' with D:=K.D} Y1.top w1:=(mX K' Y1.top w' K.D).trans gy.ext;exact hs'.fr.ext e1);obtain⟨cs,k1,k2,k3⟩:=AU lN hf2 fn.results.toList vs hvs;have hrun:(results fn a'.tmps).run E.P w1= .ok (if h:cs.toArray.size=1 then cs.toArray[0] else .tuple cs.toArray) w1:=(by have hres:results fn a'.tmps=(do let vs<-fn.results.mapM (pF a'.tmps);pure (if h:vs.size=1 then vs[0] else .tuple vs)):=rfl;rw[hres,Array.mapM_eq_mapM_toList];simp only[Sem.run_bind,Sem.run_map,k1,Result.andThen_ok,Sem.run_pure]);have jZ:Step E B0 (newer Y Y1) Y K w Y1 {K' with D:=K.D} w1:=
     ⟨lN,st'.ext.trans ((mX K' Y1.top w' K.D).trans gy.ext),st'.below.trans gy.below,fun _ h=>h,st'.A,st'.nI,st'.fU⟩
    refine⟨_,hrun,{K' with D:=K.D},?_,lN,hs'.st,jZ⟩;rw[<-hv];cases vs with
    |nil=>have:cs=[]:=(by simpa using k2.symm);subst this;exact .Rm [] #[] rfl (fun i hi=>absurd hi (PS i))
    |cons v1 vs=>
     cases cs with
     |nil=>simp at k2|cons c1 cs=>
      cases vs with
      |nil=>have:cs=[]:=(by simpa using k2.symm);subst this;have:=k3 0 (by simp);simpa using this|cons v2 vs=>have hsz2:¬((c1::cs).toArray.size=1):=(by simp only[List.length_cons,Nat.add_right_cancel_iff] at k2;rw[List.size_toArray,List.length_cons];omega);rw[dif_neg hsz2];refine .Rm _ _ (by simpa using k2) (fun i hi=>?_);have:=k3 i hi;simpa [QB,List.getD] using this
   rcases hne with rfl|rfl<;>cases x<;>simp only[bX] at hx<;>exact hleave
  exact pG
 .simp at h
theorem Yt (hE:TR E):∀n,Sound E (Rh E n):=by
 have all:∀n m,m<=n->Sound E (Rh E m):=by
  intro n;induction n with
  |zero=>
   intro m hm;obtain rfl:m=0:=by omega
   exact⟨(fun _ _ _ _ _ _ h=>by cases h),(fun _ _ _ _ _ _ h=>by cases h)⟩
  |succ n ih=>
   intro m hm;by_cases hmn:m<=n
   .exact ih m hmn
   .obtain rfl:m=n+1:=(by omega);exact⟨fun c fr Y e fr' Y' h=>vS hE n ih c fr Y e fr' Y' h,JH n (ih n (mF _)).code⟩
 exact fun n=>all n n (mF _)
theorem JI (hE:TR E){n:Nat}{f:FuncId}{args:List V}{v:V}(h:V4 E (Rh E n) f args=some v):Uo E f args v:=abh hE (Yt hE n).call h
end
end Aq
end
