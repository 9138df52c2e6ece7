/- Part of the proof of a law. -/
import Derived.Test.YteniejlbjfigdaaGreatDoorV09
set_option linter.all false
set_option linter.unusedSimpArgs false
set_option linter.unusedSectionVars false
section
namespace Aq
open Go
set_option linter.unusedSectionVars false
set_option linter.unusedVariables false
section
variable {R:jB} {E:Env}
variable {ρ:aS} {b:Nat} {st:MS R.T} {fr:Fr} {σ:ah}
def Ae (E:Env) (fr:Fr) (o:Oper):Bool:=match o.op with
 |.call c=>match c.callee with
  |.value f=>lX E fr o f
  |_=>false
 |_=>false
def lF (E:Env) (fr:Fr) (σ:ah) (aC:Nat) (o:Oper) (x:V) (σ':ah):Prop:=
 (Ae E fr o=false→∀all os Q,dZ all fr o=some true→OW E all (aC+1) os (fr.put o.dst x) σ' Q→OW E all aC (o::os) fr σ Q)∧
 (Ae E fr o=false→∀ms all os fs Q,dZ all fr o=some true→bL E ms all (aC+1) os (fr.put o.dst x) σ' (fs++[dA E all fr o true]) Q→bL E ms all aC (o::os) fr σ fs Q)
theorem lF.of {aC:Nat} {o:Oper} {x:V} {σ':ah} (h:∀S,opC E S fr σ aC o=some (x,fr,σ')):lF E fr σ aC o x σ':=
 ⟨fun _ _ _ _ hw h'=>OW.op hw h h',fun _ _ _ _ _ _ hw h'=>bL.op hw h h'⟩
theorem anc {S:je} {aC:Nat} {o:Oper} {x:V} {σ':ah} (h:bE E fr σ aC o=some (x,σ')):opC E S fr σ aC o=some (x,fr,σ'):=by
 unfold opC
 split
 ·rename_i c hc;unfold bE at h;rw[hc] at h;cases h
 ·rename_i c hc;unfold bE at h;rw[hc] at h;cases h
 ·rw[h];rfl
theorem ach {o:Oper} {c:Call} {f:Operand} {g:FuncId} {a b:List V} (ho:o.op= .call c) (gI:c.callee= .value f) (hf:fr.ev E f= .fn (.func g) a b) (h:Ae E fr o=false):∀d,o.dst=some d→E.own g d=false:=by
 intro d hd
 unfold Ae at h
 rw[ho] at h
 dsimp only at h
 rw[gI] at h
 dsimp only at h
 unfold lX at h
 rw[hf,hd] at h
 exact h
theorem lF.jo {aC:Nat} {o:Oper} {x:V} {σ':ah} (h:bE E fr σ aC o=some (x,σ')):lF E fr σ aC o x σ':=.of fun S=>anc h
def rE (E:Env) (st:MS R.T) (ρ:aS) (aC:Nat) (fr:Fr) (σ:ah) (o:Oper):dX R→Prop
 |.t v=> ∃x,lF E fr σ aC o x σ∧Rl R ρ σ.top v x
 |.c c v=>c=true→∃x,lF E fr σ aC o x σ∧Rl R ρ σ.top v x
 |.w v st'=> ∃x σ' ρ',lF E fr σ aC o x σ'∧aJ ρ' (aC+1) st' fr σ'∧σ'.next=σ.next∧Rl R ρ' σ'.top v x∧∀p,o.dst≠some p→bI true p st ρ σ st' ρ' σ'
 |.wc c v st'=>c=true→∃x σ' ρ',lF E fr σ aC o x σ'∧aJ ρ' (aC+1) st' fr σ'∧σ'.next=σ.next∧Rl R ρ' σ'.top v x∧∀p,o.dst≠some p→bI true p st ρ σ st' ρ' σ'
 |.p _ _ o' f=> ∀a,o'=some a→∃x,lF E fr σ aC o x σ∧Rl R ρ σ.top (f a) x
theorem vX {top:Nat→Nat} {x:TV R.T} {v:V} (hg:zV x=true) (h:Rl R ρ top x v):aB R ρ top x.cells v.cells∧dW v=true:=by
 cases x with
 |agg cs=>obtain⟨l,rfl,hl⟩:=h.kD;exact⟨hl,rfl⟩
 |int k n=>rw[h.gL];exact⟨.cons' (by unfold Rl;rfl) rfl,rfl⟩
 |bool b=>rw[h.qw];exact⟨.cons' (by unfold Rl;rfl) rfl,rfl⟩
 |iM b=>rw[h.sS];exact⟨.cons' (by unfold Rl;rfl) rfl,rfl⟩
 |str b=>rw[h.mo];exact⟨.cons' (by unfold Rl;rfl) rfl,rfl⟩
 |dK=>rw[h.o8];exact⟨.cons' (by unfold Rl;rfl) rfl,rfl⟩
 |bJ cs=>obtain⟨l,rfl,hl⟩:=h.M5;exact⟨.cons' h rfl,rfl⟩
 |aj c t l=>obtain⟨c',rfl,hl⟩:=h.kQ;exact⟨.cons' h rfl,rfl⟩
 |ref o off=>obtain⟨s,hs,rfl⟩:=h.oo;exact⟨.cons' h rfl,rfl⟩
 |aM o off=>obtain⟨s,rfl,hs⟩:=h.uH;exact⟨.cons' h rfl,rfl⟩
 |cK o=>obtain⟨s,hs,rfl⟩:=h.vV;exact⟨.cons' h rfl,rfl⟩
 |dD k e m=>have:=h.Dv;subst this;exact⟨.cons' h rfl,rfl⟩
 |fn f a b=>obtain⟨a',b',rfl,_⟩:=h.oq;exact⟨.cons' h rfl,rfl⟩
 |undef=>have:=h.abF;subst this;exact⟨.cons' h rfl,rfl⟩
 |vw o t=>rcases h.Dw with ⟨s,_,rfl⟩| ⟨_,rfl|rfl⟩<;>exact⟨.cons' h rfl,rfl⟩
 |kZ o t i off=>obtain⟨s,_,_,rfl⟩:=h.z8;exact⟨.cons' h rfl,rfl⟩
 |sv o off k n lo hi=>obtain⟨s,_,_,rfl⟩:=h.xW;exact⟨.cons' h rfl,rfl⟩
 |sel o off k n i m=>obtain⟨s,_,_,_,rfl⟩:=h.G9;exact⟨.cons' h rfl,rfl⟩
 |qW k n y i=>obtain⟨_,_,rfl⟩:=h.M6;exact⟨.cons' h rfl,rfl⟩
 |sg _=>cases hg
 |fU=>have h':=h;unfold Rl at h';subst h';exact⟨.cons' h rfl,rfl⟩
 |fB=>have h':=h;unfold Rl at h';subst h';exact⟨.cons' h rfl,rfl⟩
 |eY=>have h':=h;unfold Rl at h';subst h';exact⟨.cons' h rfl,rfl⟩
 |iA=>have h':=h;unfold Rl at h';subst h';exact⟨.cons' h rfl,rfl⟩
 |opt j w y=>cases hg
 |gone=>cases hg
theorem ane {top:Nat→Nat} {x:TV R.T} {v:V} (hg:UW x=true) (h:Rl R ρ top x v):oneCell v=true:=by
 cases x with
 |agg cs=>cases hg
 |int k n=>rw[h.gL];rfl
 |bool b=>rw[h.qw];rfl
 |iM b=>rw[h.sS];rfl
 |str b=>rw[h.mo];rfl
 |dK=>rw[h.o8];rfl
 |bJ cs=>cases hg
 |aj c t l=>obtain⟨c',rfl,hl⟩:=h.kQ;rfl
 |ref o off=>obtain⟨s,hs,rfl⟩:=h.oo;rfl
 |aM o off=>obtain⟨s,rfl,hs⟩:=h.uH;rfl
 |cK o=>obtain⟨s,hs,rfl⟩:=h.vV;rfl
 |dD k e m=>have:=h.Dv;subst this;rfl
 |fn f a b=>obtain⟨a',b',rfl,_⟩:=h.oq;rfl
 |undef=>cases hg
 |vw o t=>rcases h.Dw with ⟨s,_,rfl⟩| ⟨_,rfl|rfl⟩<;>rfl
 |kZ o t i off=>obtain⟨s,_,_,rfl⟩:=h.z8;rfl
 |sv o off k n lo hi=>obtain⟨s,_,_,rfl⟩:=h.xW;rfl
 |sel o off k n i m=>obtain⟨s,_,_,_,rfl⟩:=h.G9;rfl
 |qW k n y i=>obtain⟨_,_,rfl⟩:=h.M6;rfl
 |sg _=>cases hg
 |fU=>unfold Rl at h;subst h;rfl
 |fB=>unfold Rl at h;subst h;rfl
 |eY=>unfold Rl at h;subst h;rfl
 |iA=>unfold Rl at h;subst h;rfl
 |opt j w y=>cases hg
 |gone=>cases hg
theorem Ho {top:Nat→Nat}:∀{x:List (TV R.T)} {v:List V},xJ x=true→aB R ρ top x v→bN v=true
 | [],v,_,h=>by rw[h.gK];rfl
 |x::xs,v,hg,h=>by
  obtain⟨y,ys,rfl,h1,h2⟩:=h.eO
  unfold xJ at hg
  rw[Bool.and_eq_true] at hg
  rw[abk,ane hg.1 h1,Ho hg.2 h2];rfl
theorem anf {top:Nat→Nat} {ag:Bool} {n off:Nat} {cs:List (TV R.T)} {l:List V} {x:TV R.T} (h:aB R ρ top cs l) (hp:MG ag n cs off=some x):∃v,mY ag n l off=some v∧Rl R ρ top x v:=by
 cases ag with
 |true=>
  have hp':(bif Nat.ble (off+n) cs.length then some (TV.agg ((cs.drop off).take n)) else none)=some x:=hp
  cases hb:Nat.ble (off+n) cs.length
  ·rw[hb] at hp';cases hp'
  ·rw[hb] at hp';cases hp'
   have hle:=Nat.le_of_ble_eq_true hb
   refine⟨.agg ((l.drop off).take n), ?_,by unfold Rl;exact⟨_,rfl,(h.drop off).take n⟩⟩
   unfold mY;rw[if_pos rfl,if_pos (by rw[h.length];exact hle)]
 |false=>
  obtain⟨v,h1,h2⟩:=h.get (show cs[off]? =some x from hp)
  exact⟨v,by unfold mY;simpa using h1,h2⟩
theorem vY {top:Nat→Nat} {t:TypeId} {off:Nat} {cs:List (TV R.T)} {l:List V} {x:TV R.T} (h:aB R ρ top cs l) (hp:kC E t cs off=some x):∃v,gB E.P t l off=some v∧Rl R ρ top x v:=by
 unfold kC at hp
 cases h1:iK E.P t with
 |none=>simp only[h1] at hp;cases hp
 |some a=>
  cases h2:bX E.P t with
  |none=>simp only[h1,h2] at hp;cases hp
  |some n=>
   simp only[h1,h2] at hp
   unfold gB;rw[h1,h2];exact anf h hp
theorem Vz {top:Nat→Nat} {cs vs:List (TV R.T)} {l k:List V} (off:Nat) (h:aB R ρ top cs l) (h':aB R ρ top vs k):aB R ρ top (CZ cs off vs) (fK l off k):=by
 unfold CZ fK
 rw[h'.length]
 exact((h.take off).append h').append (h.drop _)
theorem DN {top:Nat→Nat} {t:TypeId} {z:TV R.T} (h:vS E t=some z):∃v,iC E.P t=some v∧Rl R ρ top z v:=by
 unfold vS at h
 unfold iC
 cases h1:E.P.info? t with
 |none=>simp only[h1] at h;cases h
 |some i=>
  cases h2:i.zero with
  |none=>simp only[h1,h2] at h;cases h
  |some z'=>
   simp only[h1,h2] at h
   obtain⟨v,hv,hr⟩:=abX (ρ:=ρ) (top:=top) h
   exact⟨v,by simp[h2,hv],hr⟩
theorem aci {top:Nat→Nat} (place:Nat→Option (Nat×Nat)):∀{ps:List (Nat×TV R.T)} {qs:List (Nat×V)} {cs:List (TV R.T)} {l:List V} {cs':List (TV R.T)},ps.map (·.1)=qs.map (·.1)→aB R ρ top (ps.map (·.2)) (qs.map (·.2))→
 aB R ρ top cs l→MH place cs ps=some cs'→∃l',oG place l qs=some l'∧aB R ρ top cs' l'
 | [],[],cs,l,cs',_,_,h,hf=>by cases hf;exact⟨l,rfl,h⟩
 | [],_::_,_,_,_,h,_,_,_=>by simp at h
 |_::_,[],_,_,_,h,_,_,_=>by simp at h
 | (i,v)::ps,(j,w)::qs,cs,l,cs',hi,hr,h,hf=>by
   simp only[List.map_cons,List.cons.injEq] at hi
   obtain⟨rfl,hi⟩:=hi
   obtain⟨y,ys,e,h1,h2⟩:=hr.eO
   simp only[List.map_cons,List.cons.injEq] at e
   obtain⟨rfl,rfl⟩:=e
   unfold MH at hf
   unfold oG
   cases hp:place i with
   |none=>simp only[hp] at hf;cases hf
   |some q=>
    obtain⟨off,size⟩:=q
    simp only[hp] at hf⊢
    cases hb:(Nat.beq v.cells.length size&& Nat.ble (off+size) cs.length&& zV v)
    ·rw[hb] at hf;cases hf
    ·rw[hb,cond_true] at hf
     simp only[Bool.and_eq_true] at hb
     obtain⟨⟨b1,b2⟩,b3⟩:=hb
     obtain⟨hc,hn⟩:=vX b3 h1
     rw[if_pos ⟨by rw[hc.length];exact eF b1,by rw[h.length];exact Nat.le_of_ble_eq_true b2,hn⟩]
     exact aci place hi h2 (Vz off h hc) hf
theorem acj {top:Nat→Nat} {x:TV R.T} {v:V} {a:Bool} (h:bM x=some a) (hr:Rl R ρ top x v):v= .bool a:=by
 cases x<;>cases h
 ·exact hr.qw
 ·exact hr.sS
theorem acn {top:Nat→Nat} {x y:TV R.T} {v w:V} {r:Bool} (h:MI x y=some r) (hx:Rl R ρ top x v) (hy:Rl R ρ top y w):∃a b,v= .bool a∧w= .bool b∧r=(a==b):=by
 unfold MI at h
 cases h1:bM x with
 |none=>simp only[h1] at h;cases h
 |some a=>
  cases h2:bM y with
  |none=>simp only[h1,h2] at h;cases h
  |some b=>simp only[h1,h2] at h;cases h;exact⟨a,b,acj h1 hx,acj h2 hy,rfl⟩
theorem VA {top:Nat→Nat} {vZ:TypeId→TV R.T→TV R.T→Option Bool} {eqv:TypeId→V→V→Option Bool} (he:∀t x y v w r,vZ t x y=some r→Rl R ρ top x v→Rl R ρ top y w→eqv t v w=some r)
 {xs ys:List (TV R.T)} {vs ws:List V} (hx:aB R ρ top xs vs) (hy:aB R ρ top ys ws):∀{fs:List Field} {r:Bool},C8 E vZ xs ys fs=some r→zo E.P eqv vs ws fs=some r
 | [],r,h=>by cases h;rfl
 |f::fs,r,h=>by
  unfold C8 at h
  unfold zo
  split at h
  ·rename_i hn;rw[if_pos hn];exact VA he hx hy h
  ·rename_i hn
   rw[if_neg hn]
   cases h1:kC E f.type xs f.offset with
   |none=>simp only[h1] at h;cases h
   |some a=>
    cases h2:kC E f.type ys f.offset with
    |none=>simp only[h1,h2] at h;cases h
    |some c=>
     cases h3:vZ f.type a c with
     |none=>simp only[h1,h2,h3] at h;cases h
     |some r1=>
      cases h4:C8 E vZ xs ys fs with
      |none=>simp only[h1,h2,h3,h4] at h;cases h
      |some q=>
       simp only[h1,h2,h3,h4] at h;cases h
       obtain⟨v1,e1,g1⟩:=vY hx h1
       obtain⟨v2,e2,g2⟩:=vY hy h2
       simp[e1,e2,he _ _ _ _ _ _ h3 g1 g2,VA he hx hy h4]
theorem aco {top:Nat→Nat} {vZ:TypeId→TV R.T→TV R.T→Option Bool} {eqv:TypeId→V→V→Option Bool} (he:∀t x y v w r,vZ t x y=some r→Rl R ρ top x v→Rl R ρ top y w→eqv t v w=some r)
 {e:TypeId} {sz:Nat} {xs ys:List (TV R.T)} {vs ws:List V} (hx:aB R ρ top xs vs) (hy:aB R ρ top ys ws):∀{is:List Nat} {r:Bool},GL E vZ e sz xs ys is=some r→BR E.P eqv e sz vs ws is=some r
 | [],r,h=>by cases h;rfl
 |i::is,r,h=>by
  unfold GL at h
  unfold BR
  cases h1:kC E e xs (i*sz) with
  |none=>simp only[h1] at h;cases h
  |some a=>
   cases h2:kC E e ys (i*sz) with
   |none=>simp only[h1,h2] at h;cases h
   |some c=>
    cases h3:vZ e a c with
    |none=>simp only[h1,h2,h3] at h;cases h
    |some r1=>
     cases h4:GL E vZ e sz xs ys is with
     |none=>simp only[h1,h2,h3,h4] at h;cases h
     |some q=>
      simp only[h1,h2,h3,h4] at h;cases h
      obtain⟨v1,e1,g1⟩:=vY hx h1
      obtain⟨v2,e2,g2⟩:=vY hy h2
      simp[e1,e2,he _ _ _ _ _ _ h3 g1 g2,aco he hx hy h4]
theorem Nc {top:Nat→Nat}:∀(d:Nat) (t:TypeId) (x y:TV R.T) (v w:V) (r:Bool),C9 E d t x y=some r→Rl R ρ top x v→Rl R ρ top y w→wX E.P d t v w=some r
 |0,_,_,_,_,_,_,h,_,_=>by cases h
 |d+1,t,x,y,v,w,r,h,hx,hy=>by
  unfold C9 at h
  unfold wX
  split at h
  ·rename_i fs xs ys hu
   obtain⟨l,rfl,h1⟩:=hx.kD
   obtain⟨k,rfl,h2⟩:=hy.kD
   rw[hu];dsimp only
   split at h
   ·cases h
   ·rename_i hs;rw[if_neg hs];exact VA (Nc d) h1 h2 h
  ·rename_i n e xs ys hu
   obtain⟨l,rfl,h1⟩:=hx.kD
   obtain⟨k,rfl,h2⟩:=hy.kD
   rw[hu];dsimp only
   cases hs:bX E.P e with
   |none=>simp only[hs] at h;cases h
   |some sz=>simp only[hs] at h;simp only[Option.bind_some];exact aco (Nc d) h1 h2 h
  ·cases h
  ·cases h
  ·rename_i hu
   obtain⟨a,c,rfl,rfl,rfl⟩:=acn h hx hy
   rw[hu]
  ·rename_i k a k' c hu
   rw[hx.gL,hy.gL,hu];exact h
  ·rename_i a c hu
   rw[hx.mo,hy.mo,hu];exact h
  ·cases h
theorem acp {top:Nat→Nat} {t:TypeId} {x y:TV R.T} {v w:V} {r:Bool} (h:MJ E t x y=some r) (hx:Rl R ρ top x v) (hy:Rl R ρ top y w):qJ E.P t v w=some r:=by
 unfold MJ at h
 unfold qJ
 split at h
 ·rename_i fs xs ys hu
  split at h
  ·cases h
  ·rename_i hs
   have:=Nc 8 t _ _ v w r h hx hy
   obtain⟨l,rfl,h1⟩:=hx.kD
   obtain⟨k,rfl,h2⟩:=hy.kD
   rw[hu];dsimp only;rw[if_neg hs];exact this
 ·rename_i fs xs ys hu
  split at h
  ·cases h
  ·rename_i hs
   have:=Nc 8 t _ _ v w r h hx hy
   obtain⟨l,rfl,h1⟩:=hx.kD
   obtain⟨k,rfl,h2⟩:=hy.kD
   rw[hu];dsimp only;rw[if_neg hs];exact this
 ·rename_i hu;cases h;unfold Rl at hx hy;subst hx;subst hy;rw[hu]
 ·rename_i hu;cases h;obtain⟨a,b,rfl,_⟩:=hy.oq;unfold Rl at hx;subst hx;rw[hu]
 ·rename_i hu;cases h;obtain⟨a,b,rfl,_⟩:=hx.oq;unfold Rl at hy;subst hy;rw[hu]
 ·rename_i hu;obtain⟨a,c,rfl,rfl,rfl⟩:=acn h hx hy;rw[hu]
 ·cases h
end
end Aq
end
section
namespace Aq
open Go
set_option linter.unusedSectionVars false
set_option linter.unusedVariables false
section
variable {R:jB} {E:Env}
variable {ρ:aS} {top:Nat→Nat}
def oC (ρ:aS) (top:Nat→Nat) (v:Option V):dX R→Prop
 |.t x=> ∃y,v=some y∧Rl R ρ top x y
 |.c c x=>c=true→∃y,v=some y∧Rl R ρ top x y
 |.p _ _ o f=> ∀a,o=some a→∃y,v=some y∧Rl R ρ top (f a) y
 |_=>False
theorem acr {op:BinOp} {k:IntKind} {x y:Int} {r:dX R} (h:MK R op k x y=some r):oC ρ top (jO op k x y) r:=by
 unfold MK at h
 cases op<;>cases h<;>first
  |exact⟨_,rfl,by unfold Rl;rfl⟩
  | (intro hc
     have hy:¬y=0:=by simpa using hc
     exact⟨_,if_neg hy,by unfold Rl;rfl⟩)
theorem ang {op:BinOp} {k:IntKind} {x y:Int} {r:dX R} (h:UZ R op k x y=some r):oC ρ top (FN op k x y) r:=by
 unfold UZ at h
 cases op<;>cases h<;>
  (intro hc
   have hy:¬y<0:=by have:=of_decide_eq_true hc;omega
   exact⟨_,if_neg hy,by unfold Rl;rfl⟩)
theorem anh {op:BinOp} {x y:List UInt8} {r:dX R} (h:U0 R op x y=some r):oC ρ top (wY op x y) r:=by
 unfold U0 at h
 cases op<;>cases h<;>first
  |exact⟨_,rfl,by unfold Rl;rfl⟩
  | (intro hc
     have hy:¬((x.length+y.length:Nat):Int)>IntKind.i64.max:=by have:=of_decide_eq_true hc;omega
     exact⟨_,if_neg hy,by unfold Rl;rfl⟩)
theorem ani {P:Program} {op:BinOp} {t:TypeId} {k:IntKind} {a b:Int} (h:Da op=false):oH P op t (.int k a) (.int k b)=jO op k a b:=by
 cases op<;>first| (simp[Da] at h;done)|simp[oH]
theorem anj {P:Program} {op:BinOp} {t:TypeId} {k k':IntKind} {a b:Int} (h:Da op=true):oH P op t (.int k a) (.int k' b)=FN op k a b:=by
 cases op<;>first| (simp[Da] at h;done)|rfl
theorem ank {P:Program} {op:BinOp} {t:TypeId} {a b:List UInt8}:oH P op t (.str a) (.str b)=wY op a b:=by
 cases op<;>rfl
theorem anl {P:Program} {t:TypeId} {x y:V} {b:Bool} (h:qJ P t x y=some b):(∀k n k' m,x= .int k n→y= .int k' m→False)∧∀s s',x= .str s→y= .str s'→False:=by
 unfold qJ at h
 constructor
 ·intro k n k' m hx hy;subst hx;subst hy;split at h<;>simp_all
 ·intro s s' hx hy;subst hx;subst hy;split at h<;>simp_all
theorem acs {P:Program} {t:TypeId} {x y:V} {b:Bool} (h:qJ P t x y=some b):oH P .eql t x y=some (.bool b)∧oH P .neq t x y=some (.bool !b):=by
 obtain⟨h1,h2⟩:=anl h
 constructor
 all_goals
  unfold oH
  split
  ·rename_i he;cases he
  ·rename_i he;cases he
  ·exact(h1 _ _ _ _ rfl rfl).elim
  ·exact(h2 _ _ rfl rfl).elim
  all_goals first| (rw[h];rfl)| (rename_i he;cases he)|simp_all
theorem anm {op:BinOp} {t:TypeId} {x y:TV R.T} {v w:V} {r:dX R} (h:U1 E R op t x y=some r) (hx:Rl R ρ top x v) (hy:Rl R ρ top y w):oC ρ top (oH E.P op t v w) r:=by
 unfold U1 at h
 split at h
 ·rename_i k a k' b
  rw[hx.gL,hy.gL]
  cases hs:Da op
  ·rw[hs,cond_false] at h
   split at h
   ·rename_i e;subst e;rw[ani hs];exact acr h
   ·cases h
  ·rw[hs,cond_true] at h;rw[anj hs];exact ang h
 ·rw[hx.mo,hy.mo,ank];exact anh h
 ·split at h
  ·split at h
   ·rename_i b hb;cases h
    exact⟨_,(acs (acp hb hx hy)).1,by unfold Rl;rfl⟩
   ·cases h
  ·split at h
   ·rename_i b hb;cases h
    exact⟨_,(acs (acp hb hx hy)).2,by unfold Rl;rfl⟩
   ·cases h
  ·cases h
theorem ano {op:UnOp} {x:TV R.T} {v:V} {r:dX R} (h:U2 R op x=some r) (hx:Rl R ρ top x v):oC ρ top (zq op v) r:=by
 unfold U2 at h
 split at h
 ·cases h;rw[hx.gL];exact⟨_,rfl,by unfold Rl;rfl⟩
 ·rw[hx.gL];exact acr h
 ·cases h;rw[hx.qw];exact⟨_,rfl,by unfold Rl;rfl⟩
 ·cases h;rw[hx.sS];exact⟨_,rfl,by unfold Rl;rfl⟩
 ·cases h
theorem acu (s:List UInt8):s.map lW=List.map (aD R (.int .u8)) (s.map fun b=>((b.toNat:Nat):Int)):=by
 show s.map lW=List.map (fun n:Int=>V.int .u8 n) (List.map (fun b:UInt8=>((b.toNat:Nat):Int)) s)
 rw[List.map_map];rfl
theorem VB:∀l:List Int,(List.map (aD R (.int .u8)) l).mapM zu=some (List.map (fun n:Int=>UInt8.ofNat n.toNat) l)
 | []=>rfl
 |n::l=>by
  show List.mapM zu (V.int .u8 n::List.map (aD R (.int .u8)) l)=_
  rw[List.mapM_cons,VB l];rfl
theorem anp {a b:TypeId} {x:TV R.T} {v:V} {σ:ah} {r:dX R} (h:ML E R a b x=some r) (hx:Rl R ρ top x v):oC ρ top (vE E.P σ a b v) r:=by
 unfold ML at h
 unfold vE
 split at h
 ·rename_i hu hv;cases h;rw[hx.gL,hu,hv];exact⟨_,rfl,by unfold Rl;rfl⟩
 ·rename_i hu hv;cases h;rw[hx.mo,hu,hv];exact⟨_,rfl,by unfold Rl;rfl⟩
 ·rename_i hu hv
  rw[hx.mo,hu,hv]
  split at h
  ·rename_i he;cases h
   dsimp only;rw[he]
   exact⟨_,rfl,by unfold Rl;exact⟨.sh,by rw[acu],trivial⟩⟩
  ·cases h
 ·rename_i l hu hv
  obtain⟨c',rfl,_⟩:=hx.kQ
  rw[hu,hv]
  split at h
  ·rename_i he;cases h
   dsimp only;rw[he]
   exact⟨_,congrArg (Option.map V.str) (VB (R:=R) l),by unfold Rl;rfl⟩
  ·cases h
 ·rename_i hu hv
  rw[hx.o8,hu,hv]
  split at h
  ·rename_i he;cases h
   dsimp only;rw[he]
   exact⟨_,rfl,by unfold Rl;rfl⟩
  ·cases h
 ·cases h
theorem Nf {x:Option (TV R.T)} {v:Option V} {i:Option Int} (h:Db R x=some i) (hx:∀y,x=some y→∃w,v=some w∧Rl R ρ top y w) (hn:x=none→v=none):(i=none∧v=none)∨∃n k,i=some n∧v=some (.int k n):=by
 unfold Db at h
 split at h
 ·cases h;exact .inl ⟨rfl,hn rfl⟩
 ·rename_i k n
  cases h
  obtain⟨w,rfl,hw⟩:=hx _ rfl
  exact .inr ⟨n,k,rfl,by rw[hw.gL]⟩
 ·cases h
theorem wh {k:IntKind} {n:Int} {m:Nat} (h:gW n m=true):bnd (.int k n) m=some n.toNat:=by
 unfold gW at h
 have:=of_decide_eq_true h
 simp[bnd,kI,this]
theorem acv {α:Type} (l:List α) {lo hi:Option Int} {vl vh:Option V} (hl:(lo=none∧vl=none)∨∃n k,lo=some n∧vl=some (.int k n)) (hh:(hi=none∧vh=none)∨∃n k,hi=some n∧vh=some (.int k n)) (hb:U3 l.length lo hi=true):
 ∃a c,jI l.length l.length vl vh none=some (a,c,l.length)∧(l.take c).drop a=qZ l lo hi:=by
 rcases hl with ⟨rfl,rfl⟩| ⟨n,k,rfl,rfl⟩<;>rcases hh with ⟨rfl,rfl⟩| ⟨m,k',rfl,rfl⟩
 ·exact⟨0,l.length,rfl,by simp[qZ]⟩
 ·have h1:gW m l.length=true:=hb
  exact⟨0,m.toNat,by simp[jI,wh h1],by simp[qZ]⟩
 ·have h1:gW n l.length=true:=hb
  exact⟨n.toNat,l.length,by simp[jI,wh h1],by simp[qZ]⟩
 ·have h1:(gW m l.length&& gW n m.toNat)=true:=hb
  rw[Bool.and_eq_true] at h1
  exact⟨n.toNat,m.toNat,by simp[jI,wh h1.1,wh h1.2],by simp[qZ]⟩
theorem acw {α:Type} (f:α→V) (l:List α) (a c:Nat):((l.map f).take c).drop a=((l.take c).drop a).map f:=by simp
variable (hR:oh R)
include hR
theorem DR (t:Ty) (x:Den R.T t):(aD R t x).cells.length=dB R t∧bN (aD R t x).cells=true∧er (aD R t x)=aD R t x∧(iQ t=true→∃l,aD R t x= .agg l)∧(iQ t=false→(aD R t x).cells=[aD R t x]):=by
 cases t with
 |int k=>exact⟨rfl,rfl,rfl,by simp[iQ],fun _=>rfl⟩
 |bool=>exact⟨rfl,rfl,rfl,by simp[iQ],fun _=>rfl⟩
 |str=>exact⟨rfl,rfl,rfl,by simp[iQ],fun _=>rfl⟩
 |slice t=>exact⟨rfl,rfl,rfl,by simp[iQ],fun _=>rfl⟩
 |st n=>
  have he:aD R (.st n) x= .agg (encs R (R.lf n) (R.of n x)):=hR.enc n x
  rw[he]
  have hl:=hR.leaf n
  have key:∀(l:List Ty) (p:mO R.T l),l.all nJ=true→bN (encs R l p)=true∧(encs R l p).map fV=encs R l p:=by
   intro l
   induction l with
   |nil=>intro p _;exact⟨rfl,rfl⟩
   |cons t l ih=>
    intro p h
    rw[List.all_cons,Bool.and_eq_true] at h
    have h1:∀y:Den R.T t,oneCell (aD R t y)=true∧fV (aD R t y)=aD R t y:=by
     intro y
     cases t<;>first|exact⟨rfl,rfl⟩| (have:=h.1;simp[nJ] at this)
    cases l with
    |nil=>exact⟨by simp[encs,bN,(h1 p).1],by simp[encs,(h1 p).2]⟩
    |cons u l=>
     have:=ih p.2 h.2
     exact⟨by show (oneCell _&& bN (encs R (u::l) p.2))=true;rw[(h1 p.1).1,this.1];rfl,by show fV _::List.map fV (encs R (u::l) p.2)=_;rw[(h1 p.1).2,this.2];rfl⟩
  have:=key (R.lf n) (R.of n x) hl
  exact⟨Vo _ _,this.1,by show V.agg (List.map fV _)=_;rw[this.2],fun _=>⟨_,rfl⟩,by simp[iQ]⟩
theorem Ng {t:Ty} (l:List (Den R.T t)):kV (dB R t) (l.map (aD R t))=true:=by
 cases l with
 |nil=>rfl
 |cons x l=>show ((aD R t x).cells.length==dB R t)=true;rw[(DR hR t x).1];simp
theorem Nh {t:TypeId} {x:TV R.T} {lo hi:Option (TV R.T)} {v:V} {vl vh:Option V} {σ:ah} {r:dX R} (h:xM E R t x lo hi=some r) (hx:Rl R ρ top x v)
 (hl:∀y,lo=some y→∃w,vl=some w∧Rl R ρ top y w) (hln:lo=none→vl=none) (hh:∀y,hi=some y→∃w,vh=some w∧Rl R ρ top y w) (hhn:hi=none→vh=none):oC ρ top (j6 E.P σ t v vl vh none) r:=by
 unfold xM at h
 split at h
 ·rename_i lo' hi' e1 e2
  have b1:=Nf e1 hl hln
  have b2:=Nf e2 hh hhn
  split at h
  ·rename_i s hu
   cases h
   rw[hx.mo]
   intro hc
   obtain⟨a,c,h1,h2⟩:=acv s b1 b2 hc
   refine⟨.str (qZ s lo' hi'), ?_,by unfold Rl;rfl⟩
   unfold j6;rw[hu];dsimp only;rw[h1];simp[h2]
  ·rename_i e c u l hu
   split at h
   ·rename_i sz hs
    cases hb:Nat.beq sz (dB R u)
    ·rw[hb] at h;cases h
    ·rw[hb,cond_true] at h;cases h
     have:=eF hb;subst this
     obtain⟨c',rfl,_⟩:=hx.kQ
     intro hc
     obtain⟨a,m,h1,h2⟩:=acv l b1 b2 hc
     unfold j6;rw[hu];dsimp only
     rw[hs];simp only[Option.bind_some,List.length_map,h1,Ng hR,if_true]
     by_cases hcs:a=0∧m=l.length∧(none:Option V).isNone=true
     ·refine⟨_,by rw[if_pos hcs], ?_⟩
      unfold Rl
      refine⟨c', ?_,trivial⟩
      rw[←h2,hcs.1,hcs.2.1];simp
     ·refine⟨_,by rw[if_neg hcs], ?_⟩
      unfold Rl
      exact⟨_,by rw[←h2,acw],trivial⟩
   ·cases h
  ·cases h
 ·cases h
theorem Ni {t:TypeId} {k:Ty} (hk:vT E t k=true) (x y:Den R.T k):lV (aD R k x) (aD R k y)=some (eH R k x y)∧kJ E.P t (aD R k x)=true:=by
 unfold vT at hk
 split at hk
 ·rename_i hu;exact⟨by simp[lV,aD,eH],by unfold kJ;rw[hu];rfl⟩
 ·rename_i hu;exact⟨rfl,by unfold kJ;rw[hu];rfl⟩
 ·rename_i hu;exact⟨rfl,by unfold kJ;rw[hu];rfl⟩
 ·cases hk
theorem acy {t:TypeId} {k e:Ty} (hk:vT E t k=true) (x:Den R.T k):∀m:List (Den R.T k×Den R.T e),nO (aD R k x) (m.map fun p=>aD R k p.1) (m.map fun p=>aD R e p.2)=some ((iZ (eH R k) x m).map (aD R e))
 | []=>rfl
 | (a,v)::m=>by
   show (lV (aD R k x) (aD R k a)).bind _=some ((bif eH R k x a then some v else iZ (eH R k) x m).map (aD R e))
   rw[(Ni hR hk x a).1,Option.bind_some]
   cases eH R k x a
   ·exact acy hk x m
   ·rfl
theorem acz {t:TypeId} {k e:Ty} (hk:vT E t k=true) (x:Den R.T k) (v:Den R.T e):∀m:List (Den R.T k×Den R.T e),tY (aD R k x) (aD R e v) (m.map fun p=>aD R k p.1) (m.map fun p=>aD R e p.2)=
 some ((kP (eH R k) x v m).map (fun p=>aD R k p.1),(kP (eH R k) x v m).map fun p=>aD R e p.2)
 | []=>rfl
 | (a,w)::m=>by
   show (lV (aD R k x) (aD R k a)).bind _=_
   rw[(Ni hR hk x a).1,Option.bind_some]
   show _=some (List.map _ (bif eH R k x a then (x,v)::m else (a,w)::kP (eH R k) x v m),List.map _ (bif eH R k x a then (x,v)::m else (a,w)::kP (eH R k) x v m))
   cases eH R k x a
   ·simp only[Bool.false_eq_true,if_false,cond_false]
    rw[acz hk x v m];rfl
   ·rfl
theorem acA {t:TypeId} {k:Ty} (hk:vT E t k=true) {x:Den R.T k} {y:TV R.T} {v:V} (h:nW R k y=some x) (hr:Rl R ρ top y v):v=aD R k x:=by
 unfold vT at hk
 split at hk
 ·exact Vl h hr
 ·exact Vn h hr
 ·exact Vm h hr
 ·cases hk
omit hR in
def mapOf (σ:ah):V→Option (List V×List V)
 |.eY=>some ([],[])
 |.cK loc s=>σ.fZ loc s
 |.dD ks vs=>some (ks,vs)
 |_=>none
omit hR in
theorem acB {P:Program} {σ:ah} {t:TypeId} {m k:V} {ok:Bool}:tZ P σ t m k ok=(qI P t).bind fun p=>if kJ P p.1 k then (mapOf σ m).bind fun q=>(nO k q.1 q.2).bind fun r=>
 (match r with|some v=>some (v,true)|none=>(iC P p.2).map fun z=>(z,false)).map fun (x:V×Bool)=>if ok then .bJ [x.1,.bool x.2] else x.1 else none:=by
 cases m<;>rfl
theorem VD {t:TypeId} {k e:Ty} {m:List (Den R.T k×Den R.T e)} {y:TV R.T} {w mv:V} {ok:Bool} {σ:ah} {r:dX R} (h:GN E R t k e m y ok=some r) (hy:Rl R ρ top y w)
 (hm:mapOf σ mv=some (m.map (fun p=>aD R k p.1),m.map fun p=>aD R e p.2)):oC ρ top (tZ E.P σ t mv w ok) r:=by
 unfold GN at h
 split at h
 ·rename_i kt et ht
  cases hk:vT E kt k
  ·rw[hk] at h;cases h
  ·rw[hk,cond_true] at h
   split at h
   ·rename_i z hz
    split at h
    ·rename_i z' x hz' hx
     cases h
     have hw:=acA hR hk hx hy
     subst hw
     obtain⟨zv,hzv,nK⟩:=DN (ρ:=ρ) (top:=top) hz
     have anq:=Hf hR hz' nK
     rw[acB,ht];simp only[Option.bind_some]
     rw[if_pos (Ni hR hk x x).2,hm]
     simp only[Option.bind_some]
     rw[acy hR hk x m]
     simp only[Option.bind_some]
     cases hg:iZ (eH R k) x m with
     |some v=>
      simp only[Option.map_some]
      cases ok
      ·exact⟨_,rfl,M7 hR .any (.inl rfl) e v⟩
      ·refine⟨_,rfl, ?_⟩
       rw[cond_true]
       unfold Rl
       exact⟨_,rfl,.cons' (M7 hR .any (.inl rfl) e v) (.cons' (by unfold Rl;rfl) rfl)⟩
     |none=>
      simp only[Option.map_none,hzv,Option.map_some]
      have hz3:Rl R ρ top (gV R .any e z') zv:=anq
      cases ok
      ·exact⟨_,rfl,hz3⟩
      ·refine⟨_,rfl, ?_⟩
       rw[cond_true]
       unfold Rl
       exact⟨_,rfl,.cons' hz3 (.cons' (by unfold Rl;rfl) rfl)⟩
    ·cases h
   ·cases h
 ·cases h
end
end Aq
end
section
namespace Aq
open Go
set_option linter.unusedSectionVars false
set_option linter.unusedVariables false
section
variable {R:jB} {E:Env}
variable {ρ:aS} {top:Nat→Nat} {b:Nat} {st:MS R.T} {fr:Fr} {σ:ah}
theorem d9.{u} {α:Type u} {c:Bool} {o:Option α} {y:α} (h:(bif c then o else none)=some y):c=true∧o=some y:=by
 cases c
 ·cases h
 ·exact⟨rfl,h⟩
theorem Nj {t e:TypeId} {u:Ty} {sz dP:Nat} (h:Df E R t=some (e,u,sz,dP)):∃z,jy E.P t=some e∧bX E.P e=some sz∧pX E.P e=some dP∧iK E.P e=some (iQ u)∧iC E.P e=some z∧
 sz=dB R u∧0<sz∧(iQ u||sz==1)=true∧z.cells.length=sz:=by
 unfold Df at h
 split at h
 ·rename_i e' he
  split at h
  ·rename_i u' sz' by' ag z h1 h2 h3 h4 h5
   obtain⟨hc,h⟩:=d9 h
   cases h
   simp only[Bool.and_eq_true] at hc
   obtain⟨⟨⟨⟨c1,c2⟩,c3⟩,c4⟩,c5⟩:=hc
   have:ag=iQ u:=by simpa using c5
   subst this
   refine⟨z,he,h2,h3,h4,h5,eF c1,Nat.le_of_ble_eq_true c2, ?_,eF c4⟩
   rw[Bool.or_eq_true] at c3⊢
   rcases c3 with c3|c3
   ·exact .inl c3
   ·exact .inr (by rw[eF c3];rfl)
  ·cases h
 ·cases h
theorem VE (ag:Bool) (sz:Nat):∀vs:List V,(∀v∈vs,v.cells.length=sz)→chunks ag sz vs.length (vs.flatMap V.cells)=vs.map fun v=>if ag then .agg v.cells else v.cells.headD ay
 | [],_=>rfl
 |v::vs,h=>by
  have h1:=h v (by simp)
  have h2:=VE ag sz vs (fun w hw=>h w (by simp[hw]))
  show _::chunks ag sz vs.length ((v.cells++vs.flatMap V.cells).drop sz)=_
  rw[List.drop_left' h1,h2,List.map_cons]
  congr 1
  cases ag
  ·simp only[Bool.false_eq_true,if_false]
   show (v.cells++vs.flatMap V.cells).headD ay=_
   cases hv:v.cells with
   |nil=>
    have h0:sz=0:=by rw[←h1,hv];rfl
    cases vs with
    |nil=>rfl
    |cons w vs=>
     have:w.cells=[]:=List.eq_nil_of_length_eq_zero (by rw[h w (by simp),h0])
     simp only[List.flatMap_cons,this,List.nil_append]
     have:∀vs:List V,(∀v∈vs,v.cells.length=sz)→vs.flatMap V.cells=[]:=by
      intro vs hvs
      rw[List.flatMap_eq_nil_iff]
      intro x hx;exact List.eq_nil_of_length_eq_zero (by rw[hvs x hx,h0])
     rw[this vs (fun x hx=>h x (by simp[hx]))]
   |cons a l=>rfl
  ·simp only[if_true]
   show V.agg ((v.cells++vs.flatMap V.cells).take sz)=_
   rw[List.take_left' h1]
variable (hR:oh R)
include hR
theorem anr {t:Ty} {x:Den R.T t} {v:V} (h:er v=aD R t x):dW v=true:=by
 cases v<;>try rfl
 have h1:=ou hR t x
 rw[←h] at h1
 simp[er,aA] at h1
theorem acC {u:Ty} {sz len:Nat} (hsz:sz=dB R u):∀(ps:List (Nat×TV R.T)) (qs:List (Nat×V)) (xs:List (Den R.T u)) (n:Nat) (done rest:List V),xO R u n ps=some xs→ps.map (·.1)=qs.map (·.1)→
 aB R ρ top (ps.map (·.2)) (qs.map (·.2))→done.length=n*sz→rest.length=xs.length*sz→n+xs.length≤len→
 ∃vs:List V,oG (fun i=>if i<len then some (i*sz,sz) else none) (done++rest) qs=some (done++vs.flatMap V.cells)∧vs.length=xs.length∧vs.map er=xs.map (aD R u)∧(∀v∈vs,v.cells.length=sz∧bN v.cells=true)
 | [],[],xs,n,done,rest,h,_,_,h1,h2,_=>by
   cases h
   have:rest=[]:=List.eq_nil_of_length_eq_zero (by simpa using h2)
   subst this
   exact⟨[],by simp[oG],rfl,rfl,by simp⟩
 | [],_::_,_,_,_,_,_,h,_,_,_,_=>by simp at h
 |_::_,[],_,_,_,_,_,h,_,_,_,_=>by simp at h
 | (i,v)::ps,(j,w)::qs,xs,n,done,rest,h,hi,hr,h1,h2,h3=>by
   simp only[List.map_cons,List.cons.injEq] at hi
   obtain⟨rfl,hi⟩:=hi
   obtain⟨y,ys,e,g1,g2⟩:=hr.eO
   simp only[List.map_cons,List.cons.injEq] at e
   obtain⟨rfl,rfl⟩:=e
   unfold xO at h
   cases hb:Nat.beq i n
   ·rw[hb] at h;cases h
   ·rw[hb,cond_true] at h
    have:=eF hb;subst this
    cases hu:nW R u v with
    |none=>simp only[hu] at h;cases h
    |some x=>
     cases hs:xO R u (i+1) ps with
     |none=>simp only[hu,hs] at h;cases h
     |some xs'=>
      simp only[hu,hs] at h
      obtain rfl:=Option.some.inj h
      obtain⟨a1,a2,a3,a4,a5⟩:=Vq hR hu g1
      rw[←hsz] at a4
      have hlen:rest.length=sz+xs'.length*sz:=by rw[h2,List.length_cons,Nat.succ_mul];omega
      have q1:(done++w.cells).length=(i+1)*sz:=by rw[List.length_append,h1,a4,Nat.succ_mul]
      have q2:(rest.drop sz).length=xs'.length*sz:=by rw[List.length_drop,hlen,Nat.add_sub_cancel_left]
      have q3:i+1+xs'.length≤len:=by rw[List.length_cons] at h3;omega
      obtain⟨vs,k1,k2,k3,k4⟩:=acC hsz ps qs xs' (i+1) (done++w.cells) (rest.drop sz) hs hi g2 q1 q2 q3
      refine⟨w::vs, ?_,by simp[k2],by simp[a1,k3], ?_⟩
      ·simp only[List.length_cons] at h3
       unfold oG
       simp only[if_pos (show i<len by omega)]
       rw[if_pos ⟨a4,by rw[List.length_append,h1,hlen];exact Nat.add_le_add_left (Nat.le_add_right _ _) _,anr hR a1⟩]
       have:fK (done++rest) (i*sz) w.cells=done++w.cells++rest.drop sz:=by
        unfold fK
        rw[List.take_left' h1,a4,List.drop_append,h1,Nat.add_sub_cancel_left,List.drop_eq_nil_of_le (by omega)]
        rfl
       rw[this,k1]
       simp
      ·intro z hz
       rcases List.mem_cons.1 hz with rfl|hz
       ·exact⟨a4,a5⟩
       ·exact k4 z hz
theorem ant {u:Ty} {sz:Nat} (hsz:sz=dB R u) (h1:(iQ u||sz==1)=true) {v:V} {x:Den R.T u} (he:er v=aD R u x) (hl:v.cells.length=sz):er (if iQ u then .agg v.cells else v.cells.headD ay)=aD R u x:=by
 cases hs:iQ u
 ·simp only[Bool.false_eq_true,if_false]
  have hne:∀cs,v≠ .agg cs:=by
   rintro cs rfl
   cases u<;>first| (simp[iQ] at hs;done)| (simp[er,aD] at he;done)
  have:v.cells=[v]:=by cases v<;>first|rfl|exact absurd rfl (hne _)
  rw[this];exact he
 ·simp only[if_true]
  obtain⟨l,hl'⟩:=(DR hR u x).2.2.2.1 hs
  cases v<;>first|exact he| (rw[hl'] at he;simp[er] at he)
theorem anu {t:TypeId} {len:Nat} {ps:List (Nat×TV R.T)} {qs:List (Nat×V)} {r:dX R} (h:U4 E R t len ps=some r) (hi:ps.map (·.1)=qs.map (·.1)) (hr:aB R ρ top (ps.map (·.2)) (qs.map (·.2))):oC ρ top (wZ E t len qs) r:=by
 unfold U4 at h
 split at h
 ·rename_i e u sz dP he
  obtain⟨z,e1,e2,e3,e4,e5,e6,e7,e8,e9⟩:=Nj he
  ·obtain⟨hc,h⟩:=d9 h
   rw[Bool.and_eq_true] at hc
   split at h
   ·rename_i xs hx
    cases h
    have hlen:xs.length=len:=by
     have:∀(ps:List (Nat×TV R.T)) (n:Nat) (xs:List (Den R.T u)),xO R u n ps=some xs→xs.length=ps.length:=by
      intro ps
      induction ps with
      |nil=>intro n xs h;cases h;rfl
      |cons p ps ih=>
       intro n xs h
       obtain⟨i,v⟩:=p
       unfold xO at h
       obtain⟨_,h⟩:=d9 h
       cases hu:nW R u v with
       |none=>simp only[hu] at h;cases h
       |some x=>
        cases hs:xO R u (n+1) ps with
        |none=>simp only[hu,hs] at h;cases h
        |some xs'=>simp only[hu,hs] at h;cases h;simp[ih _ _ hs]
     rw[this ps 0 xs hx];exact eF hc.2
    obtain⟨vs,k1,k2,k3,k4⟩:=acC hR (len:=len) e6 ps qs xs 0 [] ((List.replicate len z.cells).flatten) hx hi hr (by simp) (by simp[e9,hlen]) (by omega)
    refine⟨.aj .full (xs.map (aD R u)), ?_,by unfold Rl;exact⟨.full,rfl,rfl⟩⟩
    unfold wZ
    rw[e1];simp only[Option.bind_some,e2,e4,e5]
    rw[if_pos ⟨Nat.le_of_ble_eq_true hc.1,e9,e7,e8⟩]
    rw[List.nil_append,List.nil_append] at k1
    rw[k1]
    simp only[Option.bind_some]
    have hone:bN (vs.flatMap V.cells)=true:=by
     unfold bN
     rw[List.all_flatMap,List.all_eq_true]
     intro v hv;exact(k4 v hv).2
    rw[hone,if_pos rfl,←hlen,←k2,VE _ _ _ (fun v hv=>(k4 v hv).1),List.map_map]
    congr 2
    have:∀(vs:List V) (xs:List (Den R.T u)),vs.map er=xs.map (aD R u)→(∀v∈vs,v.cells.length=sz∧bN v.cells=true)→vs.map (er∘fun v=>if iQ u then .agg v.cells else v.cells.headD ay)=xs.map (aD R u):=by
     intro vs
     induction vs with
     |nil=>intro xs h _;exact h
     |cons v vs ih=>
      intro xs h hk
      cases xs with
      |nil=>simp at h
      |cons x xs=>
       simp only[List.map_cons,List.cons.injEq] at h
       rw[List.map_cons,List.map_cons,ih xs h.2 (fun w hw=>hk w (by simp[hw]))]
       congr 1
       exact ant hR e6 e8 h.1 (hk v (by simp)).1
    rw[this vs xs k3 k4]
   ·cases h
 ·cases h
theorem VF {u:Ty} (l:List (Den R.T u)):(l.map (aD R u)).all (fun v=>bN v.cells)=true:=by
 simp[List.all_map,(DR hR u _).2.1]
theorem VG {u:Ty} {ag:Bool} {y:TV R.T} {v z:V} {l:List (Den R.T u)} (h:GQ R u y=some l) (hy:Rl R ρ top y v):jU σ ag (dB R u) z v=some (l.map (aD R u))∧uf v=false:=by
 unfold GQ at h
 split at h
 ·obtain⟨e,e2⟩:=rz h;subst e;cases e2
  obtain⟨c',rfl,_⟩:=hy.kQ
  exact⟨by show (if kV _ _=true then _ else _)=_;rw[if_pos (Ng hR _)],rfl⟩
 ·cases h;rw[hy.o8];exact⟨rfl,rfl⟩
 ·rename_i s
  obtain⟨e,e2⟩:=rz h;subst e;cases e2
  rw[hy.mo]
  exact⟨by show (if 1=1 then some (s.map lW) else none)=_;rw[if_pos rfl];exact congrArg some (acu (R:=R) s),rfl⟩
 ·cases h
theorem anv {t e:TypeId} {sz dP:Nat} {ag:Bool} {z:V} {c:Cap} {l ys:List V} {y:V} {loc:Option Loc} {aC:Nat} {P:Program} (h1:jy P t=some e) (h2:bX P e=some sz) (h3:pX P e=some dP) (h4:iK P e=some ag) (h5:iC P e=some z)
 (h6:z.cells.length=sz) (h7:0<sz) (h8:(ag||sz==1)=true) (hy:jU σ ag sz z y=some ys) (hi:uf y=false) (ho:ys.all (fun v=>bN v.cells)=true) (hr:bC (l.length+ys.length) dP=true) (hh:kV sz l=true):
 iW P false false σ aC loc t (.aj c l) y=match c with
  |.own n s=>if n=sz∧σ.top s=l.length then some (.aj (.own n s) (l++ys),σ.cO s (l.length+ys.length)) else none
  |.nil|.full=>some (.aj (.own sz aC) (l++ys),σ.cO aC (l.length+ys.length))
  |_=>none:=by
 unfold iW
 simp only[h1,h2,h3,h4,h5,Option.bind_some,hi,hy,ho,if_true]
 rw[if_pos ⟨trivial,h6,h7,h8⟩]
 simp only[hr,hh,and_self,if_true]
 cases c<;>rfl
theorem anw {d:Option Nat} {t u:TypeId} {x y:TV R.T} {v w:V} {r:dX R} {aC:Nat} {loc:Option Loc} {o:Oper} (h:GR E R d t u x y st=some r) (hx:Rl R ρ σ.top x v) (hy:Rl R ρ σ.top y w) (hi:aJ ρ aC st fr σ)
 (ho:∀y σ',iW E.P false false σ aC loc t v w=some (y,σ')→lF E fr σ aC o y σ'):rE E st ρ aC fr σ o r:=by
 unfold GR at h
 split at h
 ·rename_i d
  split at h
  ·rename_i e τ sz dP he
   obtain⟨z,e1,e2,e3,e4,e5,e6,e7,e8,e9⟩:=Nj he
   ·obtain⟨hss,h⟩:=d9 h
    split at h
    ·rename_i tk l l' hd hs
     cases h
     intro hroom
     subst e6
     obtain⟨g1,g2⟩:=VG hR (ag:=iQ τ) (z:=z) (σ:=σ) hs hy
     have hlen:bC ((l.map (aD R τ)).length+(l'.map (aD R τ)).length) dP=true:=by rw[List.length_map,List.length_map];exact hroom
     have hap:∀c,iW E.P false false σ aC loc t (.aj c (l.map (aD R τ))) w=_:=fun c=>anv hR (σ:=σ) (c:=c) (loc:=loc) (aC:=aC) e1 e2 e3 e4 e5 e9 e7 e8 g1 g2 (VF hR l') hlen (Ng hR l)
     have fresh:∀(c:Cap),(c= .nil∨c= .full)→v= .aj c (l.map (aD R τ))→∃x σ' ρ',lF E fr σ aC o x σ'∧aJ ρ' (aC+1) (st.wk tk) fr σ'∧σ'.next=σ.next∧Rl R ρ' σ'.top (.aj (.own tk) τ (l++l')) x∧∀p,o.dst≠some p→bI true p st ρ σ (st.wk tk) ρ' σ':=by
      intro c hc hv
      subst hv
      have:=hap c
      refine⟨.aj (.own (dB R τ) aC) (l.map (aD R τ)++l'.map (aD R τ)),σ.cO aC ((l.map (aD R τ)).length+(l'.map (aD R τ)).length),ρ.jd tk aC,ho _ _ (by rw[this];rcases hc with rfl|rfl<;>rfl), ?_,rfl, ?_, ?_⟩
      ·exact hi.wk tk aC _ (Nat.le_succ _) (Nat.lt_succ_self _) (fun u _ hu=>by have:=hi.lt u _ hu;omega)
      ·unfold Rl
       exact⟨_,by rw[List.map_append],.inr (.inr ⟨aC,rfl,by simp[aS.jd,upd],by rw[Gx];simp⟩)⟩
      ·exact fun p _=>bI.wk
     unfold abz at hd
     split at hd
     ·rename_i l0
      split at hd
      ·rename_i l1 hl1
       cases hd
       obtain⟨e,e2⟩:=rz hl1;subst e;cases e2
       obtain⟨c',rfl,hc'⟩:=hx.kQ
       exact fresh c' (.inl hc') rfl
      ·cases hd
     ·rename_i l0
      split at hd
      ·rename_i l1 hl1
       cases hd
       obtain⟨e,e2⟩:=rz hl1;subst e;cases e2
       obtain⟨c',rfl,hc'⟩:=hx.kQ
       exact fresh c' (.inr hc') rfl
      ·cases hd
     ·rename_i tk' τ' l0
      split at hd
      ·rename_i l1 hl1
       cases hd
       obtain⟨e,e2⟩:=rz hl1;subst e;cases e2
       obtain⟨c',rfl,hc'⟩:=hx.kQ
       rcases hc' with hc'|hc'| ⟨s,hc',ht,hl⟩
       ·exact fresh c' (.inl hc') rfl
       ·exact fresh c' (.inr hc') rfl
       ·subst hc'
        have:=hap (.own (dB R τ') s)
        dsimp only at this
        rw[if_pos ⟨rfl,by rw[List.length_map];exact hl⟩] at this
        refine⟨_,_,ρ.jd tk s,ho _ _ this, ?_,rfl, ?_, ?_⟩
        ·exact hi.wk tk s _ (Nat.le_succ _) (by have:=hi.lt tk s ht;omega) (fun u hu h'=>hu (hi.inj u tk s h' ht))
        ·unfold Rl
         exact⟨_,by rw[List.map_append],.inr (.inr ⟨s,rfl,by simp[aS.jd,upd],by rw[Gx];simp⟩)⟩
        ·exact fun p _=>bI.wk
      ·cases hd
     ·cases hd
      rw[hx.o8] at fresh
      have hx':=hx.o8
      subst hx'
      exact fresh .nil (.inl rfl) rfl
     ·cases hd
    ·cases h
  ·cases h
 ·cases h
omit hR in
theorem anx {t:TypeId} {x:TV R.T} {v:V} {n:Nat} (h:U6 E t x st=some n) (hx:Rl R ρ σ.top x v) (hi:aJ ρ b st fr σ):mG E σ t v=some n:=by
 unfold U6 at h
 unfold mG
 split at h
 ·rename_i hu;cases h;obtain⟨c',rfl,_⟩:=hx.kQ;rw[hu];simp
 ·rename_i hu;cases h;rw[hx.o8,hu];rfl
 ·rename_i o t hu
  split at h
  ·rename_i t' l hl
   cases h
   have h1:=(hi.rd hl).1
   rcases hx.Dw with ⟨s,_,rfl⟩| ⟨h0,rfl|rfl⟩
   ·rw[hu];dsimp only;rw[h1]
   ·rw[hu];dsimp only;rw[h1,h0];rfl
   ·rw[hu];dsimp only;rw[h1,h0];rfl
  ·cases h
 ·rename_i hu;cases h;rw[hx.mo,hu]
 ·rename_i o hu
  split at h
  ·rename_i k e m hl
   cases h
   obtain⟨s,h1,rfl⟩:=hx.vV
   obtain⟨s',h2,h3⟩:=hi.rd hl
   rw[h1] at h2;cases h2
   rw[hu];dsimp only;rw[h3];simp
  ·cases h
 ·rename_i hu;cases h;rw[hx.Dv,hu];simp
 ·rename_i hu;cases h;unfold Rl at hx;subst hx;rw[hu]
 ·rename_i hu;cases h;rw[hu]
 ·cases h
omit hR in
theorem VH (mx:Bool):∀{l:List (TV R.T)} {x y:TV R.T} {v:V} {k:List V},Di mx x l=some y→Rl R ρ top x v→aB R ρ top l k→∃w,kK mx v k=some w∧Rl R ρ top y w
 | [],x,y,v,k,h,hx,hl=>by
   rw[hl.gK]
   unfold Di at h;cases h
   exact⟨v,by cases v<;>rfl,hx⟩
 |z::l,x,y,v,k,h,hx,hl=>by
  obtain⟨w,ws,rfl,h1,h2⟩:=hl.eO
  unfold Di at h
  split at h
  ·rename_i hz;cases hz
  ·rename_i k a k' b l' hz
   simp only[List.cons.injEq] at hz
   obtain⟨rfl,rfl⟩:=hz
   split at h
   ·rename_i e;subst e
    rw[hx.gL,h1.gL]
    unfold kK
    rw[if_pos rfl]
    refine VH mx h ?_ h2
    unfold Rl
    cases mx<;>rfl
   ·cases h
  ·cases h
omit hR in
theorem acD (c:Cp):∀(l:List Ty) (p:mO R.T l),(jM R c l p).length=l.length
 | [],_=>rfl
 | [_],_=>rfl
 |_::u::l,p=>by show (jM R c (u::l) p.2).length+1=_;rw[acD c (u::l)];rfl
omit hR in
theorem Nk (c:Cp) (t:Ty) (x:Den R.T t):(gV R c t x).cells.length=dB R t:=by
 cases t with
 |st n=>exact acD c _ _
 |_=>rfl
omit hR in
theorem Nl (t:Ty):∀l:List (Den R.T t),(l.flatMap fun x=>(gV R .any t x).cells).length=l.length*dB R t
 | []=>by simp
 |x::l=>by rw[List.flatMap_cons,List.length_append,Nk,Nl t l,List.length_cons,Nat.succ_mul];omega
omit hR in
theorem acE {α:Type}:∀{l:List α} {i:Nat} {x:α},l[i]? =some x→∃a b,l=a++x::b∧a.length=i
 | [],_,_,h=>by simp at h
 |y::l,0,x,h=>by simp at h;subst h;exact⟨[],l,rfl,rfl⟩
 |y::l,i+1,x,h=>by
  obtain⟨a,b,rfl,hl⟩:=acE (l:=l) (i:=i) (by simpa using h)
  exact⟨y::a,b,rfl,by simp[hl]⟩
omit hR in
theorem anz {α:Type} {l:List α} {i:Int} {x:α} (h:aK l i=some x):∃a b,l=a++x::b∧a.length=i.toNat∧0≤i:=by
 unfold aK at h
 split at h
 ·rename_i hi
  obtain⟨a,b,h1,h2⟩:=acE h
  exact⟨a,b,h1,h2,hi.1⟩
 ·cases h
omit hR in
theorem anA {ag:Bool} {n off:Nat} {pre el post:List (TV R.T)} {v:TV R.T} (h:MG ag n el off=some v):MG ag n (pre++el++post) (pre.length+off)=some v:=by
 cases ag with
 |true=>
  have h':(bif Nat.ble (off+n) el.length then some (TV.agg ((el.drop off).take n)) else none)=some v:=h
  obtain⟨hb,h'⟩:=d9 h'
  have hle:=Nat.le_of_ble_eq_true hb
  show (bif Nat.ble (pre.length+off+n) (pre++el++post).length then some (TV.agg (((pre++el++post).drop (pre.length+off)).take n)) else none)=some v
  have hb':Nat.ble (pre.length+off+n) (pre++el++post).length=true:=Nat.ble_eq_true_of_le (by simp;omega)
  rw[hb',cond_true,←h']
  congr 2
  have e1:(pre++el++post).drop (pre.length+off)=(el++post).drop off:=by
   rw[List.append_assoc,List.drop_append,List.drop_eq_nil_of_le (by omega)]
   simp
  rw[e1,List.drop_append,List.take_append]
  have e2:n-(el.drop off).length=0:=by simp;omega
  rw[e2];simp
 |false=>
  have h':el[off]? =some v:=h
  show (pre++el++post)[pre.length+off]? =some v
  have hlt:off<el.length:=by rw[List.getElem?_eq_some_iff] at h';exact h'.1
  rw[List.append_assoc,List.getElem?_append_right (by omega),Nat.add_sub_cancel_left,List.getElem?_append_left hlt]
  exact h'
omit hR in
theorem anB {t:TypeId} {off:Nat} {pre el post:List (TV R.T)} {v:TV R.T} (h:kC E t el off=some v):kC E t (pre++el++post) (pre.length+off)=some v:=by
 unfold kC at h⊢
 cases h1:iK E.P t with
 |none=>simp only[h1] at h;cases h
 |some a=>
  cases h2:bX E.P t with
  |none=>simp only[h1,h2] at h;cases h
  |some n=>simp only[h1,h2] at h⊢;exact anA h
omit hR in
theorem anC {t:TypeId} {off:Nat} {cs cs':List (TV R.T)} (hl:cs.length=cs'.length) (h:(kC E t cs off).isSome=true):∃v,kC E t cs' off=some v:=by
 unfold kC at h⊢
 cases h1:iK E.P t with
 |none=>simp only[h1] at h;cases h
 |some a=>
  cases h2:bX E.P t with
  |none=>simp only[h1,h2] at h;cases h
  |some n=>
   simp only[h1,h2] at h⊢
   cases a with
   |true=>
    have h':(bif Nat.ble (off+n) cs.length then some (TV.agg ((cs.drop off).take n)) else none).isSome=true:=h
    cases hb:Nat.ble (off+n) cs.length
    ·rw[hb] at h';cases h'
    ·exact⟨.agg ((cs'.drop off).take n),by show (bif Nat.ble (off+n) cs'.length then _ else _)=_;rw[←hl,hb];rfl⟩
   |false=>
    have h':cs[off]?.isSome=true:=h
    have hlt:off<cs'.length:=by rw[←hl];simpa using h'
    exact⟨cs'[off],List.getElem?_eq_getElem hlt⟩
omit hR in
theorem acF {o s:Nat} {τ:Ty} {l:List (Den R.T τ)} {i:Int} {y:Den R.T τ} (hO:fq ρ σ o (.arr τ l)) (hs:ρ.ob o=some s) (hy:aK l i=some y):
 ∃a b cs,l=a++y::b∧a.length=i.toNat∧σ.bY (1,o) s=some cs∧aB R ρ σ.top ((a.flatMap fun x=>(gV R .any τ x).cells)++(gV R .any τ y).cells++b.flatMap fun x=>(gV R .any τ x).cells) cs∧(a.flatMap fun x=>(gV R .any τ x).cells).length=i.toNat*dB R τ:=by
 obtain⟨a,b,rfl,h1,h2⟩:=anz hy
 rcases hO.2 with h| ⟨s',cs,h3,h4,h5⟩
 ·exact absurd h.1 (by simp)
 ·rw[hs] at h3;cases h3
  refine⟨a,b,cs,rfl,h1,h4, ?_,by rw[Nl,h1]⟩
  rw[List.flatMap_append,List.flatMap_cons] at h5
  rw[List.append_assoc];exact h5
omit hR in
theorem anD {t:TypeId} {o s off:Nat} {τ:Ty} {i:Int} {ob:Ob R.T} {r:dX R} (h:U9 E R t τ i off ob=some r) (hO:fq ρ σ o ob) (hs:ρ.ob o=some s):∃(l:List (Den R.T τ)) (f:Den R.T τ→TV R.T),r= .p (Den R.T τ) (CG R τ) (aK l i) f∧
 ∀y,aK l i=some y→∃cs w,σ.bY (1,o) s=some cs∧gB E.P t cs (i.toNat*dB R τ+off)=some w∧Rl R ρ σ.top (f y) w:=by
 unfold U9 at h
 split at h
 ·rename_i τ' l0
  split at h
  ·rename_i l1 hl
   obtain⟨e,e2⟩:=rz hl;subst e;cases e2
   obtain⟨hb,h⟩:=d9 h
   cases h
   refine⟨l0,_,rfl,fun y hy=> ?_⟩
   obtain⟨a,b,cs,h1,h2,h3,h4,h5⟩:=acF hO hs hy
   obtain⟨v,hv⟩:=anC (cs':=(gV R .any τ' y).cells) (by rw[Nk,Nk]) hb
   have:=anB (pre:=a.flatMap fun x=>(gV R .any τ' x).cells) (post:=b.flatMap fun x=>(gV R .any τ' x).cells) hv
   rw[h5] at this
   obtain⟨w,hw,hr⟩:=vY h4 this
   exact⟨cs,w,h3,hw,by rw[hv];exact hr⟩
  ·cases h
 ·cases h
theorem anE {τ:Ty} {cs:List (TV R.T)} {x:Den R.T τ} {vs:List V} (h:Va R τ cs=some x) (hr:aB R ρ top cs vs):aB R ρ top (gV R .any τ x).cells vs:=by
 have one:∀(t:Ty) (x:Den R.T t),nJ t=true→oV R t (hd1 R cs)=some x→aB R ρ top [xH R .any t x] vs:=by
  intro t x ht h
  cases cs with
  |nil=>cases t<;>cases h
  |cons c cs=>
   cases cs with
   |nil=>
    obtain⟨v,l,rfl,h1,h2⟩:=hr.eO
    rw[h2.gK]
    exact .cons' (Ac hR h h1) rfl
   |cons c' cs=>cases t<;>cases h
 cases τ with
 |st n=>
  have:=Hf hR (t:=.st n) (show nW R (.st n) (.agg cs)=some x from h) (v:=.agg vs) (by unfold Rl;exact⟨vs,rfl,hr⟩)
  obtain⟨l,e,hl⟩:=Rl.kD this
  cases e;exact hl
 |int k=>exact one (.int k) x rfl h
 |bool=>exact one .bool x rfl h
 |str=>exact one .str x rfl h
 |slice t=>exact one (.slice t) x rfl h
omit hR in
theorem anF {α:Type} (pre el post vs:List α) (off:Nat) (h:off+vs.length≤el.length):(pre++el++post).take (pre.length+off)++vs++(pre++el++post).drop (pre.length+off+vs.length)=pre++(el.take off++vs++el.drop (off+vs.length))++post:=by
 have e1:(pre++el++post).take (pre.length+off)=pre++el.take off:=by
  rw[List.append_assoc,List.take_append,List.take_of_length_le (by omega),Nat.add_sub_cancel_left,List.take_append,Nat.sub_eq_zero_of_le (by omega)]
  simp
 have e2:(pre++el++post).drop (pre.length+off+vs.length)=el.drop (off+vs.length)++post:=by
  rw[List.append_assoc,List.drop_append,List.drop_eq_nil_of_le (by omega),show pre.length+off+vs.length-pre.length=off+vs.length by omega,List.drop_append,Nat.sub_eq_zero_of_le (by omega)]
  simp
 rw[e1,e2]
 simp
theorem anG {o s off:Nat} {τ:Ty} {i:Int} {l:List (Den R.T τ)} {y y':Den R.T τ} {vc:List (TV R.T)} {vl:List V} (hO:fq ρ σ o (.arr τ l)) (hs:ρ.ob o=some s) (hy:aK l i=some y) (hv:aB R ρ σ.top vc vl) (hle:off+vc.length≤dB R τ)
 (hu:Va R τ (CZ (gV R .any τ y).cells off vc)=some y'):∃cs,σ.bY (1,o) s=some cs∧i.toNat*dB R τ+off+vl.length≤cs.length∧aB R ρ σ.top ((mh l i y').flatMap fun x=>(gV R .any τ x).cells) (fK cs (i.toNat*dB R τ+off) vl)∧(mh l i y').length=l.length:=by
 obtain⟨a,b,cs,rfl,h2,h3,h4,h5⟩:=acF hO hs hy
 obtain⟨p1,post,rfl,g1,g2⟩:=h4.split
 obtain⟨pre,el,rfl,g3,g4⟩:=g1.split
 have l1:pre.length=i.toNat*dB R τ:=by rw[g3.length,h5]
 have l2:el.length=dB R τ:=by rw[g4.length,Nk]
 have l3:=hv.length
 refine⟨_,h3, ?_, ?_, ?_⟩
 ·rw[List.length_append,List.length_append];omega
 ·have e:mh (a++y::b) i y'=a++y'::b:=by
   unfold mh
   rw[←h2,List.set_append_right _ _ (Nat.le_refl _),Nat.sub_self];rfl
  rw[e,List.flatMap_append,List.flatMap_cons,←List.append_assoc]
  have e2:fK (pre++el++post) (i.toNat*dB R τ+off) vl=pre++fK el off vl++post:=by
   unfold fK
   rw[←l1];exact anF pre el post vl off (by omega)
  rw[e2]
  exact(g3.append (anE hR hu (Vz off g4 hv))).append g2
 ·unfold mh;rw[List.length_set]
theorem anH (τ:Ty) (x:Den R.T τ):aB R ρ top (gV R .any τ x).cells (aD R τ x).cells:=by
 refine(vX ?_ (M7 hR .any (.inl rfl) τ x)).1
 cases τ<;>rfl
theorem DT (τ:Ty):∀l:List (Den R.T τ),aB R ρ top (l.flatMap fun x=>(gV R .any τ x).cells) ((l.map (aD R τ)).flatMap V.cells)
 | []=>rfl
 |x::l=>by
  rw[List.map_cons,List.flatMap_cons,List.flatMap_cons]
  exact(anH hR τ x).append (DT τ l)
theorem anI {t e:TypeId} {sz dP:Nat} {ag:Bool} {z:V} {ys:List V} {x y:V} {loc:Option Loc} {aC:Nat} {P:Program} (h1:jy P t=some e) (h2:bX P e=some sz) (h3:pX P e=some dP) (h4:iK P e=some ag) (h5:iC P e=some z)
 (h6:z.cells.length=sz) (h7:0<sz) (h8:(ag||sz==1)=true) (hy:jU σ ag sz z y=some ys) (hi:uf y=false) (ho:ys.all (fun v=>bN v.cells)=true):
 iW P true false σ aC loc t x y=match x with
  |.aj c l=>if bC (l.length+ys.length) dP=true∧kV sz l=true then
     match c with
     |.nil=>loc.map fun loc=>(.vw loc aC 0 (l.length+ys.length) (l.length+ys.length) sz ag,σ.setObj loc aC (.cells ((l++ys).flatMap V.cells)))
     |.full=>if ys.isEmpty then some (.aj .full l,σ) else loc.map fun loc=>(.vw loc aC 0 (l.length+ys.length) (l.length+ys.length) sz ag,σ.setObj loc aC (.cells ((l++ys).flatMap V.cells)))
     |_=>none else none
  |.vw iX s off len cap bq _=>
   if bC (len+ys.length) dP=true∧off=0∧bq=sz then
    loc.bind fun loc=>(σ.bY iX s).bind fun cs=>
     if len+ys.length≤cap then
      if (len+ys.length)*sz≤cs.length then
       some (.vw iX s 0 (len+ys.length) cap sz ag,σ.setObj iX s (.cells (fK cs (len*sz) (ys.flatMap V.cells))))
      else none
     else if len*sz≤cs.length then
      some (.vw loc aC 0 (len+ys.length) (len+ys.length) sz ag,(σ.kH iX).setObj loc aC (.cells (cs.take (len*sz)++ys.flatMap V.cells)))
     else none
   else none
  |_=>none:=by
 unfold iW
 simp only[h1,h2,h3,h4,h5,Option.bind_some,hi,hy,ho,if_true]
 rw[if_pos ⟨trivial,h6,h7,h8⟩]
 cases x<;>try rfl
 ·rename_i c l
  cases c<;>rfl
 ·simp only[true_and]
omit hR in
theorem bI.Vs {o q s n:Nat} {x:Ob R.T} {a:gQ} (hne:q≠o):bI true q st ρ σ (st.new o x) (ρ.Ab o s n) (σ.setObj (1,o) s a):=⟨(Vr q hne).1,(Vr q hne).2,rfl,Nat.le_refl _,fun _ _=>rfl,fun _ _ _ ha=>Vx ha,(bI.new (nr:=true) (ρ:=ρ) (s:=s) (a:=a) hne).ro⟩
omit hR in
theorem bI.del {o q:Nat} {y:Ob R.T} (hl:look st.ob o=some y) (hy:nX y=false):bI true q st ρ σ (st.del o) ρ (σ.kH (1,o)):=⟨rfl,rfl,rfl,Nat.le_refl _,fun _ _=>rfl,fun _ _ _ ha=>am8 ha,fun hr=>by
 have hne:q≠o:=by rintro rfl;rw[hr y hl] at hy;cases hy
 refine⟨fun z hz=> ?_,fun s'=> ?_⟩
 ·have hz':look (iN o st.ob) q=some z:=hz
  rw[o9 hne] at hz'
  exact hr z hz'
 ·unfold ah.bY ah.fZ;rw[abT σ hne];exact⟨rfl,rfl⟩⟩
omit hR in
theorem bI.del' {o q:Nat} {y:Ob R.T} (hl:look st.ob o=some y) (hy:nX y=false):bI true q st ρ σ (st.del o) ρ σ:=⟨rfl,rfl,rfl,Nat.le_refl _,fun _ _=>rfl,fun _ _ _ _=>rfl,fun hr=>by
 have hne:q≠o:=by rintro rfl;rw[hr y hl] at hy;cases hy
 refine⟨fun z hz=> ?_,fun s'=>⟨rfl,rfl⟩⟩
 have hz':look (iN o st.ob) q=some z:=hz
 rw[o9 hne] at hz'
 exact hr z hz'⟩
omit hR in
theorem VI {α:Type} {p:Nat}:∀l:List (Nat×α),look (iN p l) p=none
 | []=>rfl
 | (j,x)::l=>by
   unfold iN
   cases hj:Nat.beq j p
   ·show (bif Nat.beq j p then some x else look (iN p l) p)=none
    rw[hj];exact VI l
   ·exact VI l
omit hR in
theorem aJ.del' (h:aJ ρ b st fr σ) (o:Nat):aJ ρ b (st.del o) fr σ:={h with
 ob:=fun p y hy=>by
  by_cases e:p=o
  ·subst e
   have:look (iN p st.ob) p=some y:=hy
   rw[VI] at this;cases this
  ·have hy':look (iN o st.ob) p=some y:=hy
   rw[o9 e] at hy'
   exact h.ob p y hy'
 fr:=h.fr}
omit hR in
theorem DU {d aC:Nat} {τ:Ty} {l:List (Den R.T τ)} {L:List V} {st0:MS R.T} {σ0:ah} {o:Oper} {v:V} {σ1:ah} (hd:o.dst=some d) (hi:aJ ρ (aC+1) st0 fr σ0) (hk:∀p,bI true p st ρ σ st0 ρ σ0) (hn:σ0.next=σ.next) (hL:aB R ρ σ0.top (l.flatMap fun x=>(gV R .any τ x).cells) L)
 (hs:lF E fr σ aC o v σ1) (hv:v= .vw (1,d) aC 0 l.length l.length (dB R τ) (iQ τ)) (h1:σ1=σ0.setObj (1,d) aC (.cells L)):∃x σ' ρ',lF E fr σ aC o x σ'∧aJ ρ' (aC+1) (st0.new d (.arr τ l)) fr σ'∧σ'.next=σ.next∧Rl R ρ' σ'.top (.vw d τ) x∧∀p,o.dst≠some p→bI true p st ρ σ (st0.new d (.arr τ l)) ρ' σ':=by
 subst hv;subst h1
 refine⟨_,_,ρ.Ab d aC l.length,hs,hi.Vs d aC l.length ⟨(He (ρ:=ρ.lC d aC)).symm,.inr ⟨aC,L,rD (ρ:=ρ),nU _ _ _ _,xX l L hL⟩⟩,hn, ?_,fun p hp=> ?_⟩
 ·unfold Rl
  exact .inl ⟨aC,rD (ρ:=ρ),by rw[show (ρ.Ab d aC l.length).ln d=l.length from He (ρ:=ρ.lC d aC)]⟩
 ·have hne:p≠d:=fun e=>hp (by rw[hd,e])
  exact(hk p).trans (bI.Vs hne)
theorem anJ {d:Option Nat} {t u:TypeId} {x y:TV R.T} {v w:V} {r:dX R} {aC:Nat} {o:Oper} (h:GU E R d t u x y st=some r) (hx:Rl R ρ σ.top x v) (hy:Rl R ρ σ.top y w) (hi:aJ ρ aC st fr σ) (hd:o.dst=d)
 (ho:∀y σ',iW E.P true false σ aC (d.map fun t=>(1,t)) t v w=some (y,σ')→lF E fr σ aC o y σ'):rE E st ρ aC fr σ o r:=by
 have hi1:=hi.le (Nat.le_succ aC)
 unfold GU at h
 split at h
 ·rename_i d
  split at h
  ·rename_i e τ sz dP he
   obtain⟨z,e1,e2,e3,e4,e5,e6,e7,e8,e9⟩:=Nj he
   obtain⟨hss,h⟩:=d9 h
   split at h
   ·rename_i l' hs
    subst e6
    obtain⟨g1,g2⟩:=VG hR (ag:=iQ τ) (z:=z) (σ:=σ) hs hy
    have hap:=fun x=>anI hR (σ:=σ) (x:=x) (loc:=some (1,d)) (aC:=aC) e1 e2 e3 e4 e5 e9 e7 e8 g1 g2 (VF hR l')
    split at h
    ·rename_i p τ0 _
     split at h
     ·rename_i e0
      subst e0
      split at h
      ·rename_i τ' l0 hl
       split at h
       ·rename_i a l1 l2 hl2
        obtain⟨e,e2'⟩:=rz hl2;subst e;cases e2'
        cases h
        intro hroom
        have hO:=hi.ob _ _ hl
        have hlen:l0.length=ρ.ln p:=hO.1
        have hnr:nX (Ob.arr τ' l0)=false:=rfl
        have hne:¬((a::l1).map (aD R τ')).isEmpty=true:=by simp
        rcases hx.Dw with ⟨s,k1,rfl⟩| ⟨k1,k2⟩
        ·rcases hO.2 with hO2| ⟨s',cs,k3,k4,k5⟩
         ·rw[k1] at hO2;exact absurd hO2.2 (by simp)
         ·rw[k1] at k3;cases k3
          have:=hap (.vw (1,p) s 0 (ρ.ln p) (ρ.ln p) (dB R τ') (iQ τ'))
          dsimp only at this
          have hlc:cs.length=l0.length*dB R τ':=by rw[k5.length,Nl]
          rw[if_pos ⟨by rw[List.length_map,←hlen];exact hroom,rfl,rfl⟩] at this
          simp only[Option.bind_some,k4] at this
          rw[if_neg (by rw[List.length_map,List.length_cons];omega),if_pos (by rw[hlc,hlen];exact Nat.le_refl _)] at this
          refine DU (σ0:=σ.kH (1,p)) (L:=cs.take (ρ.ln p*dB R τ')++((a::l1).map (aD R τ')).flatMap V.cells) hd (hi1.del p) (fun q=>bI.del hl hnr) rfl ?_ (ho _ _ this) ?_ rfl
          ·rw[List.flatMap_append,List.take_of_length_le (by rw[hlc,hlen];exact Nat.le_refl _)]
           exact aB.append k5 (DT hR _ _)
          ·rw[List.length_map,List.length_append,hlen]
        ·have hl0:l0=[]:=List.eq_nil_of_length_eq_zero (by omega)
         subst hl0
         have hroom':bC (([]:List V).length+((a::l1).map (aD R τ')).length) dP=true∧kV (dB R τ') ([]:List V)=true:=⟨by rw[List.length_map];exact hroom,rfl⟩
         rcases k2 with rfl|rfl
         ·have:=hap (.aj .nil [])
          dsimp only at this
          rw[if_pos hroom'] at this
          refine DU (σ0:=σ) hd (hi1.del' p) (fun q=>bI.del' hl hnr) rfl (DT hR _ _) (ho _ _ this) ?_ rfl
          simp
         ·have:=hap (.aj .full [])
          dsimp only at this
          rw[if_pos hroom',if_neg hne] at this
          refine DU (σ0:=σ) hd (hi1.del' p) (fun q=>bI.del' hl hnr) rfl (DT hR _ _) (ho _ _ this) ?_ rfl
          simp
       ·cases h
      ·cases h
     ·cases h
    ·obtain⟨hE,h⟩:=d9 h
     cases h
     intro hroom
     have hroom':bC (([]:List V).length+(l'.map (aD R τ)).length) dP=true∧kV (dB R τ) ([]:List V)=true:=⟨by rw[List.length_map,List.length_nil,Nat.zero_add];exact hroom,rfl⟩
     rcases ace (fr:=fr) hE (.of hx) with rfl|rfl
     ·have:=hap (.aj .nil [])
      dsimp only at this
      rw[if_pos hroom'] at this
      refine DU (σ0:=σ) hd hi1 (fun q=>.refl) rfl (DT hR _ _) (ho _ _ this) ?_ rfl
      simp
     ·have:=hap (.aj .full [])
      dsimp only at this
      rw[if_pos hroom'] at this
      by_cases hne:((l'.map (aD R τ)).isEmpty)=true
      ·rw[if_pos hne] at this
       have hl':l'=[]:=by simpa using hne
       subst hl'
       refine⟨_,_,ρ.gh d,ho _ _ this,hi1.ghost d τ,rfl,by unfold Rl;exact .inr ⟨He (ρ:=ρ) (n:=0),.inr rfl⟩,fun p hp=> ?_⟩
       have VJ:p≠d:=fun e=>hp (by rw[hd,e])
       exact⟨(DI p VJ).1,(DI p VJ).2,rfl,Nat.le_refl _,fun _ _=>rfl,fun _ _ _ _=>rfl,fun hr=>⟨((bI.new (nr:=true) (ρ:=ρ) (σ:=σ) (s:=0) (a:=.cells []) VJ).ro hr).1,fun _=>⟨rfl,rfl⟩⟩⟩
      ·rw[if_neg hne] at this
       refine DU (σ0:=σ) hd hi1 (fun q=>.refl) rfl (DT hR _ _) (ho _ _ this) ?_ rfl
       simp
   ·cases h
  ·cases h
 ·cases h
omit hR in
theorem acG {α β:Type} (f:α→List β) (x:α):∀n,(List.replicate n x).flatMap f=(List.replicate n (f x)).flatten
 |0=>rfl
 |n+1=>by rw[List.replicate_succ,List.replicate_succ,List.flatMap_cons,List.flatten_cons,acG f x n]
omit hR in
theorem acH {ts:List (TV R.T)} {vs:List V} (h:aB R ρ top ts vs):∀n,aB R ρ top (List.replicate n ts).flatten (List.replicate n vs).flatten
 |0=>rfl
 |n+1=>by rw[List.replicate_succ,List.replicate_succ,List.flatten_cons,List.flatten_cons];exact h.append (acH h n)
theorem anK {om:Bool} {d:Option Nat} {t:TypeId} {x y:TV R.T} {v w:V} {r:dX R} {aC:Nat} {o:Oper} (h:U5 E R om d t x y st=some r) (hx:Rl R ρ σ.top x v) (hy:Rl R ρ σ.top y w) (hi:aJ ρ aC st fr σ) (hd:o.dst=d)
 (ho:∀y σ',rZ E.P om σ aC (d.map fun t=>(1,t)) t v w=some (y,σ')→lF E fr σ aC o y σ'):rE E st ρ aC fr σ o r:=by
 have hi1:=hi.le (Nat.le_succ aC)
 unfold U5 at h
 split at h
 ·rename_i d e τ sz dP k n k' m he
  obtain⟨z0,e1,e2,e3,e4,e5,e6,e7,e8,e9⟩:=Nj he
  split at h
  ·rename_i z hz
   split at h
   ·rename_i x0 hx0
    obtain⟨zv,z1,z2⟩:=DN (ρ:=ρ) (top:=σ.top) hz
    rw[e5] at z1;cases z1
    rw[hx.gL,hy.gL] at ho
    have mk:0≤n→n≤m→m≤2^47→bC m.toNat dP=true→rZ E.P om σ aC ((some d).map fun t=>(1,t)) t (.int k n) (.int k' m)=if n=0∧om=false then some (.aj (.own sz aC) [],σ.cO aC 0) else some (.vw (1,d) aC 0 n.toNat m.toNat sz (iQ τ),σ.setObj (1,d) aC (.cells (List.replicate m.toNat z0.cells).flatten)):=by
     intro h1 h2 h3 h4
     unfold rZ
     simp only[e1,e2,e3,e5,Option.bind_some,kI]
     rw[if_pos ⟨h1,h2,h4,h3,e9⟩]
     split
     ·rfl
     ·simp only[Option.map_some,Option.bind_some,e4]
    cases om with
    |true=>
     cases h
     intro hc
     rw[Bool.and_eq_true] at hc
     obtain⟨c1,c2,c3⟩:=of_decide_eq_true hc.1
     subst c2
     have:=mk c1 (Int.le_refl _) c3 hc.2
     rw[if_neg (by simp)] at this
     subst e6
     refine DU (σ0:=σ) hd hi1 (fun q=>.refl) rfl ?_ (ho _ _ this) ?_ rfl
     ·rw[acG]
      refine acH ?_ _
      have hzc:aB R ρ σ.top (gV R .any τ x0).cells z0.cells:=by
       have h1:=Hf hR hx0 z2
       refine(vX ?_ h1).1
       cases τ<;>rfl
      exact hzc
     ·rw[List.length_replicate]
    |false=>
     cases h
     intro hc
     rw[Bool.and_eq_true] at hc
     obtain⟨c1,c2,c3⟩:=of_decide_eq_true hc.1
     subst c1
     have:=mk (Int.le_refl _) c2 c3 hc.2
     rw[if_pos ⟨rfl,rfl⟩] at this
     refine⟨_,_,ρ.jd d aC,ho _ _ this,hi.wk d aC _ (Nat.le_succ _) (Nat.lt_succ_self _) (fun u _ hu=>by have:=hi.lt u _ hu;omega),rfl, ?_,fun p _=>bI.wk⟩
     unfold Rl
     exact⟨_,rfl,.inr (.inr ⟨aC,by rw[e6],by simp[aS.jd,upd],by rw[Gx];rfl⟩)⟩
   ·cases h
  ·cases h
 ·cases h
theorem anL {om:Bool} {t:TypeId} {p:Nat} {τ:Ty} {y:TV R.T} {v w:V} {r:dX R} (h:U8 E R t p τ y st=some r) (hx:Rl R ρ σ.top (.vw p τ) v) (hy:Rl R ρ σ.top y w) (hi:aJ ρ b st fr σ):oC ρ σ.top (mZ E.P t v w) r:=by
 unfold U8 at h
 split at h
 ·rename_i e k n hu
  split at h
  ·rename_i sz hs
   obtain⟨hb,h⟩:=d9 h
   split at h
   ·rename_i τ' l hl
    cases h
    have:=eF hb;subst this
    rw[hy.gL]
    intro hc
    have hc':=of_decide_eq_true hc
    have hlen:=(hi.rd hl).1
    rcases hx.Dw with ⟨s,k1,rfl⟩| ⟨h0,_⟩
    ·refine⟨.ref (1,p) s (n.toNat*dB R τ), ?_,by unfold Rl;exact⟨s,k1,hc'.1,rfl⟩⟩
     unfold mZ
     rw[hu]
     simp only[hs,Option.bind_some,idx,kI]
     rw[if_pos ⟨hc'.1,by rw[←hlen];exact hc'.2⟩]
     simp
    ·rw[hlen,h0] at hc';omega
   ·cases h
  ·cases h
 ·cases h
end
end Aq
end
