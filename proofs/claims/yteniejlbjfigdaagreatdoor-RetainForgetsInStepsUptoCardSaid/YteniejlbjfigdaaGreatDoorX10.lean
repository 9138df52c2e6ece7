/- Part of the proof of a law. -/
import Derived.Test.YteniejlbjfigdaaGreatDoorX09
set_option linter.all false
set_option linter.unusedSimpArgs false
set_option linter.unusedSectionVars false
section
namespace Aq
open Go
set_option linter.unusedSectionVars false
set_option linter.unusedVariables false
section
variable {R:iM} {E:Env}
variable {ρ:aO} {b:Nat} {st:MS R.T} {fr:Fr} {σ:ah}
def xQ (E:Env) (fr:Fr) (o:Oper):Bool:=match o.op with
 |.call c=>match c.callee with
  |.value f=>lu E fr o f
  |_=>false
 |_=>false
def kE (E:Env) (fr:Fr) (σ:ah) (aB:Nat) (o:Oper) (x:V) (σ':ah):Prop:=
 (xQ E fr o=false→∀all os Q,dU all fr o=some true→OW E all (aB+1) os (fr.put o.dst x) σ' Q→OW E all aB (o::os) fr σ Q)∧
 (xQ E fr o=false→∀ms all os fs Q,dU all fr o=some true→eu E ms all (aB+1) os (fr.put o.dst x) σ' (fs++[gy E all fr o true]) Q→eu E ms all aB (o::os) fr σ fs Q)
theorem kE.of {aB:Nat} {o:Oper} {x:V} {σ':ah} (h:∀S,opC E S fr σ aB o=some (x,fr,σ')):kE E fr σ aB o x σ':=
 ⟨fun _ _ _ _ hw h'=>OW.op hw h h',fun _ _ _ _ _ _ hw h'=>eu.op hw h h'⟩
theorem ahi {S:iJ} {aB:Nat} {o:Oper} {x:V} {σ':ah} (h:bq E fr σ aB o=some (x,σ')):opC E S fr σ aB o=some (x,fr,σ'):=by
 unfold opC
 split
 ·rename_i c hc;unfold bq at h;rw[hc] at h;cases h
 ·rename_i c hc;unfold bq at h;rw[hc] at h;cases h
 ·rw[h];rfl
theorem Xw {o:Oper} {c:Call} {f:Operand} {g:FuncId} {a b:List V} (ho:o.op= .call c) (fK:c.callee= .value f) (hf:fr.ev E f= .fn (.func g) a b) (h:xQ E fr o=false):∀d,o.dst=some d→E.own g d=false:=by
 intro d hd
 unfold xQ at h
 rw[ho] at h
 dsimp only at h
 rw[fK] at h
 dsimp only at h
 unfold lu at h
 rw[hf,hd] at h
 exact h
theorem kE.iO {aB:Nat} {o:Oper} {x:V} {σ':ah} (h:bq E fr σ aB o=some (x,σ')):kE E fr σ aB o x σ':=.of fun S=>ahi h
def pX (E:Env) (st:MS R.T) (ρ:aO) (aB:Nat) (fr:Fr) (σ:ah) (o:Oper):dO R→Prop
 |.t v=> ∃x,kE E fr σ aB o x σ∧Rl R ρ σ.top v x
 |.c c v=>c=true→∃x,kE E fr σ aB o x σ∧Rl R ρ σ.top v x
 |.w v st'=> ∃x σ' ρ',kE E fr σ aB o x σ'∧aG ρ' (aB+1) st' fr σ'∧σ'.next=σ.next∧Rl R ρ' σ'.top v x∧∀p,o.dst≠some p→bB true p st ρ σ st' ρ' σ'
 |.wc c v st'=>c=true→∃x σ' ρ',kE E fr σ aB o x σ'∧aG ρ' (aB+1) st' fr σ'∧σ'.next=σ.next∧Rl R ρ' σ'.top v x∧∀p,o.dst≠some p→bB true p st ρ σ st' ρ' σ'
 |.p _ _ o' f=> ∀a,o'=some a→∃x,kE E fr σ aB o x σ∧Rl R ρ σ.top (f a) x
theorem uq {top:Nat→Nat} {x:TV R.T} {v:V} (hg:xE x=true) (h:Rl R ρ top x v):aA R ρ top x.cells v.cells∧dN v=true:=by
 cases x with
 |agg cs=>obtain⟨l,rfl,hl⟩:=h.jM;exact⟨hl,rfl⟩
 |int k n=>rw[h.fQ];exact⟨.cons' (by unfold Rl;rfl) rfl,rfl⟩
 |bool b=>rw[h.oM];exact⟨.cons' (by unfold Rl;rfl) rfl,rfl⟩
 |gU b=>rw[h.qH];exact⟨.cons' (by unfold Rl;rfl) rfl,rfl⟩
 |str b=>rw[h.lg];exact⟨.cons' (by unfold Rl;rfl) rfl,rfl⟩
 |dG=>rw[h.nT];exact⟨.cons' (by unfold Rl;rfl) rfl,rfl⟩
 |bP cs=>obtain⟨l,rfl,hl⟩:=h.Lm;exact⟨.cons' h rfl,rfl⟩
 |ak c t l=>obtain⟨c',rfl,hl⟩:=h.jY;exact⟨.cons' h rfl,rfl⟩
 |ref o off=>obtain⟨s,hs,rfl⟩:=h.mY;exact⟨.cons' h rfl,rfl⟩
 |aK o off=>obtain⟨s,rfl,hs⟩:=h.rZ;exact⟨.cons' h rfl,rfl⟩
 |cK o=>obtain⟨s,hs,rfl⟩:=h.um;exact⟨.cons' h rfl,rfl⟩
 |dx k e m=>have:=h.Av;subst this;exact⟨.cons' h rfl,rfl⟩
 |fn f a b=>obtain⟨a',b',rfl,_⟩:=h.mZ;exact⟨.cons' h rfl,rfl⟩
 |undef=>have:=h.WL;subst this;exact⟨.cons' h rfl,rfl⟩
 |vw o t=>rcases h.Aw with ⟨s,_,rfl⟩| ⟨_,rfl|rfl⟩<;>exact⟨.cons' h rfl,rfl⟩
 |kg o t i off=>obtain⟨s,_,_,rfl⟩:=h.xK;exact⟨.cons' h rfl,rfl⟩
 |sv o off k n lo hi=>obtain⟨s,_,_,rfl⟩:=h.vI;exact⟨.cons' h rfl,rfl⟩
 |sel o off k n i m=>obtain⟨s,_,_,_,rfl⟩:=h.FZ;exact⟨.cons' h rfl,rfl⟩
 |pJ k n y i=>obtain⟨_,_,rfl⟩:=h.Lp;exact⟨.cons' h rfl,rfl⟩
 |sg _=>cases hg
 |fI=>have h':=h;unfold Rl at h';subst h';exact⟨.cons' h rfl,rfl⟩
 |fu=>have h':=h;unfold Rl at h';subst h';exact⟨.cons' h rfl,rfl⟩
 |eY=>have h':=h;unfold Rl at h';subst h';exact⟨.cons' h rfl,rfl⟩
 |gN=>have h':=h;unfold Rl at h';subst h';exact⟨.cons' h rfl,rfl⟩
 |opt j w y=>cases hg
 |gone=>cases hg
theorem ahj {top:Nat→Nat} {x:TV R.T} {v:V} (hg:Qh x=true) (h:Rl R ρ top x v):oneCell v=true:=by
 cases x with
 |agg cs=>cases hg
 |int k n=>rw[h.fQ];rfl
 |bool b=>rw[h.oM];rfl
 |gU b=>rw[h.qH];rfl
 |str b=>rw[h.lg];rfl
 |dG=>rw[h.nT];rfl
 |bP cs=>cases hg
 |ak c t l=>obtain⟨c',rfl,hl⟩:=h.jY;rfl
 |ref o off=>obtain⟨s,hs,rfl⟩:=h.mY;rfl
 |aK o off=>obtain⟨s,rfl,hs⟩:=h.rZ;rfl
 |cK o=>obtain⟨s,hs,rfl⟩:=h.um;rfl
 |dx k e m=>have:=h.Av;subst this;rfl
 |fn f a b=>obtain⟨a',b',rfl,_⟩:=h.mZ;rfl
 |undef=>cases hg
 |vw o t=>rcases h.Aw with ⟨s,_,rfl⟩| ⟨_,rfl|rfl⟩<;>rfl
 |kg o t i off=>obtain⟨s,_,_,rfl⟩:=h.xK;rfl
 |sv o off k n lo hi=>obtain⟨s,_,_,rfl⟩:=h.vI;rfl
 |sel o off k n i m=>obtain⟨s,_,_,_,rfl⟩:=h.FZ;rfl
 |pJ k n y i=>obtain⟨_,_,rfl⟩:=h.Lp;rfl
 |sg _=>cases hg
 |fI=>unfold Rl at h;subst h;rfl
 |fu=>unfold Rl at h;subst h;rfl
 |eY=>unfold Rl at h;subst h;rfl
 |gN=>unfold Rl at h;subst h;rfl
 |opt j w y=>cases hg
 |gone=>cases hg
theorem F8 {top:Nat→Nat}:∀{x:List (TV R.T)} {v:List V},vg x=true→aA R ρ top x v→bL v=true
 | [],v,_,h=>by rw[h.fP];rfl
 |x::xs,v,hg,h=>by
  obtain⟨y,ys,rfl,h1,h2⟩:=h.eD
  unfold vg at hg
  rw[Bool.and_eq_true] at hg
  rw[Wq,ahj hg.1 h1,F8 hg.2 h2];rfl
theorem ahk {top:Nat→Nat} {ag:Bool} {n off:Nat} {cs:List (TV R.T)} {l:List V} {x:TV R.T} (h:aA R ρ top cs l) (hp:KZ ag n cs off=some x):∃v,lT ag n l off=some v∧Rl R ρ top x v:=by
 cases ag with
 |true=>
  have hp':(bif Nat.ble (off+n) cs.length then some (TV.agg ((cs.drop off).take n)) else none)=some x:=hp
  cases hb:Nat.ble (off+n) cs.length
  ·rw[hb] at hp';cases hp'
  ·rw[hb] at hp';cases hp'
   have hle:=Nat.le_of_ble_eq_true hb
   refine⟨.agg ((l.drop off).take n), ?_,by unfold Rl;exact⟨_,rfl,(h.drop off).take n⟩⟩
   unfold lT;rw[if_pos rfl,if_pos (by rw[h.length];exact hle)]
 |false=>
  obtain⟨v,h1,h2⟩:=h.get (show cs[off]? =some x from hp)
  exact⟨v,by unfold lT;simpa using h1,h2⟩
theorem uw {top:Nat→Nat} {t:TypeId} {off:Nat} {cs:List (TV R.T)} {l:List V} {x:TV R.T} (h:aA R ρ top cs l) (hp:jK E t cs off=some x):∃v,fJ E.P t l off=some v∧Rl R ρ top x v:=by
 unfold jK at hp
 cases h1:gY E.P t with
 |none=>simp only[h1] at hp;cases hp
 |some a=>
  cases h2:bX E.P t with
  |none=>simp only[h1,h2] at hp;cases hp
  |some n=>
   simp only[h1,h2] at hp
   unfold fJ;rw[h1,h2];exact ahk h hp
theorem QV {top:Nat→Nat} {cs vs:List (TV R.T)} {l k:List V} (off:Nat) (h:aA R ρ top cs l) (h':aA R ρ top vs k):aA R ρ top (zZ cs off vs) (fB l off k):=by
 unfold zZ fB
 rw[h'.length]
 exact((h.take off).append h').append (h.drop _)
theorem AU {top:Nat→Nat} {t:TypeId} {z:TV R.T} (h:ug E t=some z):∃v,gZ E.P t=some v∧Rl R ρ top z v:=by
 unfold ug at h
 unfold gZ
 cases h1:E.P.info? t with
 |none=>simp only[h1] at h;cases h
 |some i=>
  cases h2:i.zero with
  |none=>simp only[h1,h2] at h;cases h
  |some z'=>
   simp only[h1,h2] at h
   obtain⟨v,hv,hr⟩:=Xe (ρ:=ρ) (top:=top) h
   exact⟨v,by simp[h2,hv],hr⟩
theorem Xx {top:Nat→Nat} (place:Nat→Option (Nat×Nat)):∀{ps:List (Nat×TV R.T)} {qs:List (Nat×V)} {cs:List (TV R.T)} {l:List V} {cs':List (TV R.T)},ps.map (·.1)=qs.map (·.1)→aA R ρ top (ps.map (·.2)) (qs.map (·.2))→
 aA R ρ top cs l→K4 place cs ps=some cs'→∃l',ny place l qs=some l'∧aA R ρ top cs' l'
 | [],[],cs,l,cs',_,_,h,hf=>by cases hf;exact⟨l,rfl,h⟩
 | [],_::_,_,_,_,h,_,_,_=>by simp at h
 |_::_,[],_,_,_,h,_,_,_=>by simp at h
 | (i,v)::ps,(j,w)::qs,cs,l,cs',hi,hr,h,hf=>by
   simp only[List.map_cons,List.cons.injEq] at hi
   obtain⟨rfl,hi⟩:=hi
   obtain⟨y,ys,e,h1,h2⟩:=hr.eD
   simp only[List.map_cons,List.cons.injEq] at e
   obtain⟨rfl,rfl⟩:=e
   unfold K4 at hf
   unfold ny
   cases hp:place i with
   |none=>simp only[hp] at hf;cases hf
   |some q=>
    obtain⟨off,size⟩:=q
    simp only[hp] at hf⊢
    cases hb:(Nat.beq v.cells.length size&& Nat.ble (off+size) cs.length&& xE v)
    ·rw[hb] at hf;cases hf
    ·rw[hb,cond_true] at hf
     simp only[Bool.and_eq_true] at hb
     obtain⟨⟨b1,b2⟩,b3⟩:=hb
     obtain⟨hc,hn⟩:=uq b3 h1
     rw[if_pos ⟨by rw[hc.length];exact dY b1,by rw[h.length];exact Nat.le_of_ble_eq_true b2,hn⟩]
     exact Xx place hi h2 (QV off h hc) hf
theorem Xy {top:Nat→Nat} {x:TV R.T} {v:V} {a:Bool} (h:bM x=some a) (hr:Rl R ρ top x v):v= .bool a:=by
 cases x<;>cases h
 ·exact hr.oM
 ·exact hr.qH
theorem Xz {top:Nat→Nat} {x y:TV R.T} {v w:V} {r:Bool} (h:K5 x y=some r) (hx:Rl R ρ top x v) (hy:Rl R ρ top y w):∃a b,v= .bool a∧w= .bool b∧r=(a==b):=by
 unfold K5 at h
 cases h1:bM x with
 |none=>simp only[h1] at h;cases h
 |some a=>
  cases h2:bM y with
  |none=>simp only[h1,h2] at h;cases h
  |some b=>simp only[h1,h2] at h;cases h;exact⟨a,b,Xy h1 hx,Xy h2 hy,rfl⟩
theorem QW {top:Nat→Nat} {uy:TypeId→TV R.T→TV R.T→Option Bool} {eqv:TypeId→V→V→Option Bool} (he:∀t x y v w r,uy t x y=some r→Rl R ρ top x v→Rl R ρ top y w→eqv t v w=some r)
 {xs ys:List (TV R.T)} {vs ws:List V} (hx:aA R ρ top xs vs) (hy:aA R ρ top ys ws):∀{fs:List Field} {r:Bool},z8 E uy xs ys fs=some r→wL E.P eqv vs ws fs=some r
 | [],r,h=>by cases h;rfl
 |f::fs,r,h=>by
  unfold z8 at h
  unfold wL
  split at h
  ·rename_i hn;rw[if_pos hn];exact QW he hx hy h
  ·rename_i hn
   rw[if_neg hn]
   cases h1:jK E f.type xs f.offset with
   |none=>simp only[h1] at h;cases h
   |some a=>
    cases h2:jK E f.type ys f.offset with
    |none=>simp only[h1,h2] at h;cases h
    |some c=>
     cases h3:uy f.type a c with
     |none=>simp only[h1,h2,h3] at h;cases h
     |some r1=>
      cases h4:z8 E uy xs ys fs with
      |none=>simp only[h1,h2,h3,h4] at h;cases h
      |some q=>
       simp only[h1,h2,h3,h4] at h;cases h
       obtain⟨v1,e1,g1⟩:=uw hx h1
       obtain⟨v2,e2,g2⟩:=uw hy h2
       simp[e1,e2,he _ _ _ _ _ _ h3 g1 g2,QW he hx hy h4]
theorem XA {top:Nat→Nat} {uy:TypeId→TV R.T→TV R.T→Option Bool} {eqv:TypeId→V→V→Option Bool} (he:∀t x y v w r,uy t x y=some r→Rl R ρ top x v→Rl R ρ top y w→eqv t v w=some r)
 {e:TypeId} {sz:Nat} {xs ys:List (TV R.T)} {vs ws:List V} (hx:aA R ρ top xs vs) (hy:aA R ρ top ys ws):∀{is:List Nat} {r:Bool},FH E uy e sz xs ys is=some r→ze E.P eqv e sz vs ws is=some r
 | [],r,h=>by cases h;rfl
 |i::is,r,h=>by
  unfold FH at h
  unfold ze
  cases h1:jK E e xs (i*sz) with
  |none=>simp only[h1] at h;cases h
  |some a=>
   cases h2:jK E e ys (i*sz) with
   |none=>simp only[h1,h2] at h;cases h
   |some c=>
    cases h3:uy e a c with
    |none=>simp only[h1,h2,h3] at h;cases h
    |some r1=>
     cases h4:FH E uy e sz xs ys is with
     |none=>simp only[h1,h2,h3,h4] at h;cases h
     |some q=>
      simp only[h1,h2,h3,h4] at h;cases h
      obtain⟨v1,e1,g1⟩:=uw hx h1
      obtain⟨v2,e2,g2⟩:=uw hy h2
      simp[e1,e2,he _ _ _ _ _ _ h3 g1 g2,XA he hx hy h4]
theorem LA {top:Nat→Nat}:∀(d:Nat) (t:TypeId) (x y:TV R.T) (v w:V) (r:Bool),Aa E d t x y=some r→Rl R ρ top x v→Rl R ρ top y w→uN E.P d t v w=some r
 |0,_,_,_,_,_,_,h,_,_=>by cases h
 |d+1,t,x,y,v,w,r,h,hx,hy=>by
  unfold Aa at h
  unfold uN
  split at h
  ·rename_i fs xs ys hu
   obtain⟨l,rfl,h1⟩:=hx.jM
   obtain⟨k,rfl,h2⟩:=hy.jM
   rw[hu];dsimp only
   split at h
   ·cases h
   ·rename_i hs;rw[if_neg hs];exact QW (LA d) h1 h2 h
  ·rename_i n e xs ys hu
   obtain⟨l,rfl,h1⟩:=hx.jM
   obtain⟨k,rfl,h2⟩:=hy.jM
   rw[hu];dsimp only
   cases hs:bX E.P e with
   |none=>simp only[hs] at h;cases h
   |some sz=>simp only[hs] at h;simp only[Option.bind_some];exact XA (LA d) h1 h2 h
  ·cases h
  ·cases h
  ·rename_i hu
   obtain⟨a,c,rfl,rfl,rfl⟩:=Xz h hx hy
   rw[hu]
  ·rename_i k a k' c hu
   rw[hx.fQ,hy.fQ,hu];exact h
  ·rename_i a c hu
   rw[hx.lg,hy.lg,hu];exact h
  ·cases h
theorem XB {top:Nat→Nat} {t:TypeId} {x y:TV R.T} {v w:V} {r:Bool} (h:K6 E t x y=some r) (hx:Rl R ρ top x v) (hy:Rl R ρ top y w):oZ E.P t v w=some r:=by
 unfold K6 at h
 unfold oZ
 split at h
 ·rename_i fs xs ys hu
  split at h
  ·cases h
  ·rename_i hs
   have:=LA 8 t _ _ v w r h hx hy
   obtain⟨l,rfl,h1⟩:=hx.jM
   obtain⟨k,rfl,h2⟩:=hy.jM
   rw[hu];dsimp only;rw[if_neg hs];exact this
 ·rename_i fs xs ys hu
  split at h
  ·cases h
  ·rename_i hs
   have:=LA 8 t _ _ v w r h hx hy
   obtain⟨l,rfl,h1⟩:=hx.jM
   obtain⟨k,rfl,h2⟩:=hy.jM
   rw[hu];dsimp only;rw[if_neg hs];exact this
 ·rename_i hu;cases h;unfold Rl at hx hy;subst hx;subst hy;rw[hu]
 ·rename_i hu;cases h;obtain⟨a,b,rfl,_⟩:=hy.mZ;unfold Rl at hx;subst hx;rw[hu]
 ·rename_i hu;cases h;obtain⟨a,b,rfl,_⟩:=hx.mZ;unfold Rl at hy;subst hy;rw[hu]
 ·rename_i hu;obtain⟨a,c,rfl,rfl,rfl⟩:=Xz h hx hy;rw[hu]
 ·cases h
end
end Aq
end
section
namespace Aq
open Go
set_option linter.unusedSectionVars false
set_option linter.unusedVariables false
section
variable {R:iM} {E:Env}
variable {ρ:aO} {top:Nat→Nat}
def nu (ρ:aO) (top:Nat→Nat) (v:Option V):dO R→Prop
 |.t x=> ∃y,v=some y∧Rl R ρ top x y
 |.c c x=>c=true→∃y,v=some y∧Rl R ρ top x y
 |.p _ _ o f=> ∀a,o=some a→∃y,v=some y∧Rl R ρ top (f a) y
 |_=>False
theorem XC {op:BinOp} {k:IntKind} {x y:Int} {r:dO R} (h:K7 R op k x y=some r):nu ρ top (jm op k x y) r:=by
 unfold K7 at h
 cases op<;>cases h<;>first
  |exact⟨_,rfl,by unfold Rl;rfl⟩
  | (intro hc
     have hy:¬y=0:=by simpa using hc
     exact⟨_,if_neg hy,by unfold Rl;rfl⟩)
theorem ahl {op:BinOp} {k:IntKind} {x y:Int} {r:dO R} (h:Qj R op k x y=some r):nu ρ top (EA op k x y) r:=by
 unfold Qj at h
 cases op<;>cases h<;>
  (intro hc
   have hy:¬y<0:=by have:=of_decide_eq_true hc;omega
   exact⟨_,if_neg hy,by unfold Rl;rfl⟩)
theorem ahm {op:BinOp} {x y:List UInt8} {r:dO R} (h:Qk R op x y=some r):nu ρ top (uO op x y) r:=by
 unfold Qk at h
 cases op<;>cases h<;>first
  |exact⟨_,rfl,by unfold Rl;rfl⟩
  | (intro hc
     have hy:¬((x.length+y.length:Nat):Int)>IntKind.i64.max:=by have:=of_decide_eq_true hc;omega
     exact⟨_,if_neg hy,by unfold Rl;rfl⟩)
theorem ahn {P:Program} {op:BinOp} {t:TypeId} {k:IntKind} {a b:Int} (h:Ab op=false):nA P op t (.int k a) (.int k b)=jm op k a b:=by
 cases op<;>first| (simp[Ab] at h;done)|simp[nA]
theorem aho {P:Program} {op:BinOp} {t:TypeId} {k k':IntKind} {a b:Int} (h:Ab op=true):nA P op t (.int k a) (.int k' b)=EA op k a b:=by
 cases op<;>first| (simp[Ab] at h;done)|rfl
theorem ahp {P:Program} {op:BinOp} {t:TypeId} {a b:List UInt8}:nA P op t (.str a) (.str b)=uO op a b:=by
 cases op<;>rfl
theorem ahq {P:Program} {t:TypeId} {x y:V} {b:Bool} (h:oZ P t x y=some b):(∀k n k' m,x= .int k n→y= .int k' m→False)∧∀s s',x= .str s→y= .str s'→False:=by
 unfold oZ at h
 constructor
 ·intro k n k' m hx hy;subst hx;subst hy;split at h<;>simp_all
 ·intro s s' hx hy;subst hx;subst hy;split at h<;>simp_all
theorem XD {P:Program} {t:TypeId} {x y:V} {b:Bool} (h:oZ P t x y=some b):nA P .eql t x y=some (.bool b)∧nA P .neq t x y=some (.bool !b):=by
 obtain⟨h1,h2⟩:=ahq h
 constructor
 all_goals
  unfold nA
  split
  ·rename_i he;cases he
  ·rename_i he;cases he
  ·exact(h1 _ _ _ _ rfl rfl).elim
  ·exact(h2 _ _ rfl rfl).elim
  all_goals first| (rw[h];rfl)| (rename_i he;cases he)|simp_all
theorem ahr {op:BinOp} {t:TypeId} {x y:TV R.T} {v w:V} {r:dO R} (h:Ql E R op t x y=some r) (hx:Rl R ρ top x v) (hy:Rl R ρ top y w):nu ρ top (nA E.P op t v w) r:=by
 unfold Ql at h
 split at h
 ·rename_i k a k' b
  rw[hx.fQ,hy.fQ]
  cases hs:Ab op
  ·rw[hs,cond_false] at h
   split at h
   ·rename_i e;subst e;rw[ahn hs];exact XC h
   ·cases h
  ·rw[hs,cond_true] at h;rw[aho hs];exact ahl h
 ·rw[hx.lg,hy.lg,ahp];exact ahm h
 ·split at h
  ·split at h
   ·rename_i b hb;cases h
    exact⟨_,(XD (XB hb hx hy)).1,by unfold Rl;rfl⟩
   ·cases h
  ·split at h
   ·rename_i b hb;cases h
    exact⟨_,(XD (XB hb hx hy)).2,by unfold Rl;rfl⟩
   ·cases h
  ·cases h
theorem ahs {op:UnOp} {x:TV R.T} {v:V} {r:dO R} (h:Qm R op x=some r) (hx:Rl R ρ top x v):nu ρ top (wM op v) r:=by
 unfold Qm at h
 split at h
 ·cases h;rw[hx.fQ];exact⟨_,rfl,by unfold Rl;rfl⟩
 ·rw[hx.fQ];exact XC h
 ·cases h;rw[hx.oM];exact⟨_,rfl,by unfold Rl;rfl⟩
 ·cases h;rw[hx.qH];exact⟨_,rfl,by unfold Rl;rfl⟩
 ·cases h
theorem XE (s:List UInt8):s.map kR=List.map (aF R (.int .u8)) (s.map fun b=>((b.toNat:Nat):Int)):=by
 show s.map kR=List.map (fun n:Int=>V.int .u8 n) (List.map (fun b:UInt8=>((b.toNat:Nat):Int)) s)
 rw[List.map_map];rfl
theorem QX:∀l:List Int,(List.map (aF R (.int .u8)) l).mapM wN=some (List.map (fun n:Int=>UInt8.ofNat n.toNat) l)
 | []=>rfl
 |n::l=>by
  show List.mapM wN (V.int .u8 n::List.map (aF R (.int .u8)) l)=_
  rw[List.mapM_cons,QX l];rfl
theorem aht {a b:TypeId} {x:TV R.T} {v:V} {σ:ah} {r:dO R} (h:K8 E R a b x=some r) (hx:Rl R ρ top x v):nu ρ top (tC E.P σ a b v) r:=by
 unfold K8 at h
 unfold tC
 split at h
 ·rename_i hu hv;cases h;rw[hx.fQ,hu,hv];exact⟨_,rfl,by unfold Rl;rfl⟩
 ·rename_i hu hv;cases h;rw[hx.lg,hu,hv];exact⟨_,rfl,by unfold Rl;rfl⟩
 ·rename_i hu hv
  rw[hx.lg,hu,hv]
  split at h
  ·rename_i he;cases h
   dsimp only;rw[he]
   exact⟨_,rfl,by unfold Rl;exact⟨.sh,by rw[XE],trivial⟩⟩
  ·cases h
 ·rename_i l hu hv
  obtain⟨c',rfl,_⟩:=hx.jY
  rw[hu,hv]
  split at h
  ·rename_i he;cases h
   dsimp only;rw[he]
   exact⟨_,congrArg (Option.map V.str) (QX (R:=R) l),by unfold Rl;rfl⟩
  ·cases h
 ·rename_i hu hv
  rw[hx.nT,hu,hv]
  split at h
  ·rename_i he;cases h
   dsimp only;rw[he]
   exact⟨_,rfl,by unfold Rl;rfl⟩
  ·cases h
 ·cases h
theorem LB {x:Option (TV R.T)} {v:Option V} {i:Option Int} (h:Ac R x=some i) (hx:∀y,x=some y→∃w,v=some w∧Rl R ρ top y w) (hn:x=none→v=none):(i=none∧v=none)∨∃n k,i=some n∧v=some (.int k n):=by
 unfold Ac at h
 split at h
 ·cases h;exact .inl ⟨rfl,hn rfl⟩
 ·rename_i k n
  cases h
  obtain⟨w,rfl,hw⟩:=hx _ rfl
  exact .inr ⟨n,k,rfl,by rw[hw.fQ]⟩
 ·cases h
theorem uz {k:IntKind} {n:Int} {m:Nat} (h:jL n m=true):bnd (.int k n) m=some n.toNat:=by
 unfold jL at h
 have:=of_decide_eq_true h
 simp[bnd,kI,this]
theorem XF {α:Type} (l:List α) {lo hi:Option Int} {vl vh:Option V} (hl:(lo=none∧vl=none)∨∃n k,lo=some n∧vl=some (.int k n)) (hh:(hi=none∧vh=none)∨∃n k,hi=some n∧vh=some (.int k n)) (hb:Qn l.length lo hi=true):
 ∃a c,jR l.length l.length vl vh none=some (a,c,l.length)∧(l.take c).drop a=pQ l lo hi:=by
 rcases hl with ⟨rfl,rfl⟩| ⟨n,k,rfl,rfl⟩<;>rcases hh with ⟨rfl,rfl⟩| ⟨m,k',rfl,rfl⟩
 ·exact⟨0,l.length,rfl,by simp[pQ]⟩
 ·have h1:jL m l.length=true:=hb
  exact⟨0,m.toNat,by simp[jR,uz h1],by simp[pQ]⟩
 ·have h1:jL n l.length=true:=hb
  exact⟨n.toNat,l.length,by simp[jR,uz h1],by simp[pQ]⟩
 ·have h1:(jL m l.length&& jL n m.toNat)=true:=hb
  rw[Bool.and_eq_true] at h1
  exact⟨n.toNat,m.toNat,by simp[jR,uz h1.1,uz h1.2],by simp[pQ]⟩
theorem XG {α:Type} (f:α→V) (l:List α) (a c:Nat):((l.map f).take c).drop a=((l.take c).drop a).map f:=by simp
variable (hR:mX R)
include hR
theorem AV (t:Ty) (x:Den R.T t):(aF R t x).cells.length=cZ R t∧bL (aF R t x).cells=true∧er (aF R t x)=aF R t x∧(gW t=true→∃l,aF R t x= .agg l)∧(gW t=false→(aF R t x).cells=[aF R t x]):=by
 cases t with
 |int k=>exact⟨rfl,rfl,rfl,by simp[gW],fun _=>rfl⟩
 |bool=>exact⟨rfl,rfl,rfl,by simp[gW],fun _=>rfl⟩
 |str=>exact⟨rfl,rfl,rfl,by simp[gW],fun _=>rfl⟩
 |slice t=>exact⟨rfl,rfl,rfl,by simp[gW],fun _=>rfl⟩
 |st n=>
  have he:aF R (.st n) x= .agg (encs R (R.lf n) (R.of n x)):=hR.enc n x
  rw[he]
  have hl:=hR.leaf n
  have key:∀(l:List Ty) (p:lH R.T l),l.all mh=true→bL (encs R l p)=true∧(encs R l p).map fG=encs R l p:=by
   intro l
   induction l with
   |nil=>intro p _;exact⟨rfl,rfl⟩
   |cons t l ih=>
    intro p h
    rw[List.all_cons,Bool.and_eq_true] at h
    have h1:∀y:Den R.T t,oneCell (aF R t y)=true∧fG (aF R t y)=aF R t y:=by
     intro y
     cases t<;>first|exact⟨rfl,rfl⟩| (have:=h.1;simp[mh] at this)
    cases l with
    |nil=>exact⟨by simp[encs,bL,(h1 p).1],by simp[encs,(h1 p).2]⟩
    |cons u l=>
     have:=ih p.2 h.2
     exact⟨by show (oneCell _&& bL (encs R (u::l) p.2))=true;rw[(h1 p.1).1,this.1];rfl,by show fG _::List.map fG (encs R (u::l) p.2)=_;rw[(h1 p.1).2,this.2];rfl⟩
  have:=key (R.lf n) (R.of n x) hl
  exact⟨QH _ _,this.1,by show V.agg (List.map fG _)=_;rw[this.2],fun _=>⟨_,rfl⟩,by simp[gW]⟩
theorem LC {t:Ty} (l:List (Den R.T t)):mH (cZ R t) (l.map (aF R t))=true:=by
 cases l with
 |nil=>rfl
 |cons x l=>show ((aF R t x).cells.length==cZ R t)=true;rw[(AV hR t x).1];simp
theorem LD {t:TypeId} {x:TV R.T} {lo hi:Option (TV R.T)} {v:V} {vl vh:Option V} {σ:ah} {r:dO R} (h:vv E R t x lo hi=some r) (hx:Rl R ρ top x v)
 (hl:∀y,lo=some y→∃w,vl=some w∧Rl R ρ top y w) (hln:lo=none→vl=none) (hh:∀y,hi=some y→∃w,vh=some w∧Rl R ρ top y w) (hhn:hi=none→vh=none):nu ρ top (kS E.P σ t v vl vh none) r:=by
 unfold vv at h
 split at h
 ·rename_i lo' hi' e1 e2
  have b1:=LB e1 hl hln
  have b2:=LB e2 hh hhn
  split at h
  ·rename_i s hu
   cases h
   rw[hx.lg]
   intro hc
   obtain⟨a,c,h1,h2⟩:=XF s b1 b2 hc
   refine⟨.str (pQ s lo' hi'), ?_,by unfold Rl;rfl⟩
   unfold kS;rw[hu];dsimp only;rw[h1];simp[h2]
  ·rename_i e c u l hu
   split at h
   ·rename_i sz hs
    cases hb:Nat.beq sz (cZ R u)
    ·rw[hb] at h;cases h
    ·rw[hb,cond_true] at h;cases h
     have:=dY hb;subst this
     obtain⟨c',rfl,_⟩:=hx.jY
     intro hc
     obtain⟨a,m,h1,h2⟩:=XF l b1 b2 hc
     unfold kS;rw[hu];dsimp only
     rw[hs];simp only[Option.bind_some,List.length_map,h1,LC hR,if_true]
     by_cases hcs:a=0∧m=l.length∧(none:Option V).isNone=true
     ·refine⟨_,by rw[if_pos hcs], ?_⟩
      unfold Rl
      refine⟨c', ?_,trivial⟩
      rw[←h2,hcs.1,hcs.2.1];simp
     ·refine⟨_,by rw[if_neg hcs], ?_⟩
      unfold Rl
      exact⟨_,by rw[←h2,XG],trivial⟩
   ·cases h
  ·cases h
 ·cases h
theorem LG {t:TypeId} {k:Ty} (hk:uh E t k=true) (x y:Den R.T k):kQ (aF R k x) (aF R k y)=some (eB R k x y)∧jS E.P t (aF R k x)=true:=by
 unfold uh at hk
 split at hk
 ·rename_i hu;exact⟨by simp[kQ,aF,eB],by unfold jS;rw[hu];rfl⟩
 ·rename_i hu;exact⟨rfl,by unfold jS;rw[hu];rfl⟩
 ·rename_i hu;exact⟨rfl,by unfold jS;rw[hu];rfl⟩
 ·cases hk
theorem XH {t:TypeId} {k e:Ty} (hk:uh E t k=true) (x:Den R.T k):∀m:List (Den R.T k×Den R.T e),mI (aF R k x) (m.map fun p=>aF R k p.1) (m.map fun p=>aF R e p.2)=some ((iy (eB R k) x m).map (aF R e))
 | []=>rfl
 | (a,v)::m=>by
   show (kQ (aF R k x) (aF R k a)).bind _=some ((bif eB R k x a then some v else iy (eB R k) x m).map (aF R e))
   rw[(LG hR hk x a).1,Option.bind_some]
   cases eB R k x a
   ·exact XH hk x m
   ·rfl
theorem XI {t:TypeId} {k e:Ty} (hk:uh E t k=true) (x:Den R.T k) (v:Den R.T e):∀m:List (Den R.T k×Den R.T e),rD (aF R k x) (aF R e v) (m.map fun p=>aF R k p.1) (m.map fun p=>aF R e p.2)=
 some ((jX (eB R k) x v m).map (fun p=>aF R k p.1),(jX (eB R k) x v m).map fun p=>aF R e p.2)
 | []=>rfl
 | (a,w)::m=>by
   show (kQ (aF R k x) (aF R k a)).bind _=_
   rw[(LG hR hk x a).1,Option.bind_some]
   show _=some (List.map _ (bif eB R k x a then (x,v)::m else (a,w)::jX (eB R k) x v m),List.map _ (bif eB R k x a then (x,v)::m else (a,w)::jX (eB R k) x v m))
   cases eB R k x a
   ·simp only[Bool.false_eq_true,if_false,cond_false]
    rw[XI hk x v m];rfl
   ·rfl
theorem XJ {t:TypeId} {k:Ty} (hk:uh E t k=true) {x:Den R.T k} {y:TV R.T} {v:V} (h:mP R k y=some x) (hr:Rl R ρ top y v):v=aF R k x:=by
 unfold uh at hk
 split at hk
 ·exact QE h hr
 ·exact QG h hr
 ·exact QF h hr
 ·cases hk
omit hR in
def mapOf (σ:ah):V→Option (List V×List V)
 |.eY=>some ([],[])
 |.cK loc s=>σ.fH loc s
 |.dx ks vs=>some (ks,vs)
 |_=>none
omit hR in
theorem XK {P:Program} {σ:ah} {t:TypeId} {m k:V} {ok:Bool}:rE P σ t m k ok=(oW P t).bind fun p=>if jS P p.1 k then (mapOf σ m).bind fun q=>(mI k q.1 q.2).bind fun r=>
 (match r with|some v=>some (v,true)|none=>(gZ P p.2).map fun z=>(z,false)).map fun (x:V×Bool)=>if ok then .bP [x.1,.bool x.2] else x.1 else none:=by
 cases m<;>rfl
theorem QY {t:TypeId} {k e:Ty} {m:List (Den R.T k×Den R.T e)} {y:TV R.T} {w mv:V} {ok:Bool} {σ:ah} {r:dO R} (h:FJ E R t k e m y ok=some r) (hy:Rl R ρ top y w)
 (hm:mapOf σ mv=some (m.map (fun p=>aF R k p.1),m.map fun p=>aF R e p.2)):nu ρ top (rE E.P σ t mv w ok) r:=by
 unfold FJ at h
 split at h
 ·rename_i kt et ht
  cases hk:uh E kt k
  ·rw[hk] at h;cases h
  ·rw[hk,cond_true] at h
   split at h
   ·rename_i z hz
    split at h
    ·rename_i z' x hz' hx
     cases h
     have hw:=XJ hR hk hx hy
     subst hw
     obtain⟨zv,hzv,QZ⟩:=AU (ρ:=ρ) (top:=top) hz
     have ahu:=F5 hR hz' QZ
     rw[XK,ht];simp only[Option.bind_some]
     rw[if_pos (LG hR hk x x).2,hm]
     simp only[Option.bind_some]
     rw[XH hR hk x m]
     simp only[Option.bind_some]
     cases hg:iy (eB R k) x m with
     |some v=>
      simp only[Option.map_some]
      cases ok
      ·exact⟨_,rfl,Lr hR .any (.inl rfl) e v⟩
      ·refine⟨_,rfl, ?_⟩
       rw[cond_true]
       unfold Rl
       exact⟨_,rfl,.cons' (Lr hR .any (.inl rfl) e v) (.cons' (by unfold Rl;rfl) rfl)⟩
     |none=>
      simp only[Option.map_none,hzv,Option.map_some]
      have hz3:Rl R ρ top (fZ R .any e z') zv:=ahu
      cases ok
      ·exact⟨_,rfl,hz3⟩
      ·refine⟨_,rfl, ?_⟩
       rw[cond_true]
       unfold Rl
       exact⟨_,rfl,.cons' hz3 (.cons' (by unfold Rl;rfl) rfl)⟩
    ·cases h
   ·cases h
 ·cases h
end
end Aq
end
section
namespace Aq
open Go
set_option linter.unusedSectionVars false
set_option linter.unusedVariables false
section
variable {R:iM} {E:Env}
variable {ρ:aO} {top:Nat→Nat} {b:Nat} {st:MS R.T} {fr:Fr} {σ:ah}
theorem dQ.{u} {α:Type u} {c:Bool} {o:Option α} {y:α} (h:(bif c then o else none)=some y):c=true∧o=some y:=by
 cases c
 ·cases h
 ·exact⟨rfl,h⟩
theorem LH {t e:TypeId} {u:Ty} {sz d9:Nat} (h:Ae E R t=some (e,u,sz,d9)):∃z,iY E.P t=some e∧bX E.P e=some sz∧og E.P e=some d9∧gY E.P e=some (gW u)∧gZ E.P e=some z∧
 sz=cZ R u∧0<sz∧(gW u||sz==1)=true∧z.cells.length=sz:=by
 unfold Ae at h
 split at h
 ·rename_i e' he
  split at h
  ·rename_i u' sz' by' ag z h1 h2 h3 h4 h5
   obtain⟨hc,h⟩:=dQ h
   cases h
   simp only[Bool.and_eq_true] at hc
   obtain⟨⟨⟨⟨c1,c2⟩,c3⟩,c4⟩,c5⟩:=hc
   have:ag=gW u:=by simpa using c5
   subst this
   refine⟨z,he,h2,h3,h4,h5,dY c1,Nat.le_of_ble_eq_true c2, ?_,dY c4⟩
   rw[Bool.or_eq_true] at c3⊢
   rcases c3 with c3|c3
   ·exact .inl c3
   ·exact .inr (by rw[dY c3];rfl)
  ·cases h
 ·cases h
theorem Q0 (ag:Bool) (sz:Nat):∀vs:List V,(∀v∈vs,v.cells.length=sz)→chunks ag sz vs.length (vs.flatMap V.cells)=vs.map fun v=>if ag then .agg v.cells else v.cells.headD ay
 | [],_=>rfl
 |v::vs,h=>by
  have h1:=h v (by simp)
  have h2:=Q0 ag sz vs (fun w hw=>h w (by simp[hw]))
  show _::chunks ag sz vs.length ((v.cells++vs.flatMap V.cells).drop sz)=_
  rw[List.drop_left' h1,h2,List.map_cons]
  congr 1
  cases ag
  ·simp only[Bool.false_eq_true,if_false]
   show (v.cells++vs.flatMap V.cells).headD ay=_
   cases hv:v.cells with
   |nil=>
    have h0:sz=0:=by rw[←h1,hv];rfl
    cases vs with
    |nil=>rfl
    |cons w vs=>
     have:w.cells=[]:=List.eq_nil_of_length_eq_zero (by rw[h w (by simp),h0])
     simp only[List.flatMap_cons,this,List.nil_append]
     have:∀vs:List V,(∀v∈vs,v.cells.length=sz)→vs.flatMap V.cells=[]:=by
      intro vs hvs
      rw[List.flatMap_eq_nil_iff]
      intro x hx;exact List.eq_nil_of_length_eq_zero (by rw[hvs x hx,h0])
     rw[this vs (fun x hx=>h x (by simp[hx]))]
   |cons a l=>rfl
  ·simp only[if_true]
   show V.agg ((v.cells++vs.flatMap V.cells).take sz)=_
   rw[List.take_left' h1]
variable (hR:mX R)
include hR
theorem ahv {t:Ty} {x:Den R.T t} {v:V} (h:er v=aF R t x):dN v=true:=by
 cases v<;>try rfl
 have h1:=ng hR t x
 rw[←h] at h1
 simp[er,aC] at h1
theorem XL {u:Ty} {sz len:Nat} (hsz:sz=cZ R u):∀(ps:List (Nat×TV R.T)) (qs:List (Nat×V)) (xs:List (Den R.T u)) (n:Nat) (done rest:List V),vB R u n ps=some xs→ps.map (·.1)=qs.map (·.1)→
 aA R ρ top (ps.map (·.2)) (qs.map (·.2))→done.length=n*sz→rest.length=xs.length*sz→n+xs.length≤len→
 ∃vs:List V,ny (fun i=>if i<len then some (i*sz,sz) else none) (done++rest) qs=some (done++vs.flatMap V.cells)∧vs.length=xs.length∧vs.map er=xs.map (aF R u)∧(∀v∈vs,v.cells.length=sz∧bL v.cells=true)
 | [],[],xs,n,done,rest,h,_,_,h1,h2,_=>by
   cases h
   have:rest=[]:=List.eq_nil_of_length_eq_zero (by simpa using h2)
   subst this
   exact⟨[],by simp[ny],rfl,rfl,by simp⟩
 | [],_::_,_,_,_,_,_,h,_,_,_,_=>by simp at h
 |_::_,[],_,_,_,_,_,h,_,_,_,_=>by simp at h
 | (i,v)::ps,(j,w)::qs,xs,n,done,rest,h,hi,hr,h1,h2,h3=>by
   simp only[List.map_cons,List.cons.injEq] at hi
   obtain⟨rfl,hi⟩:=hi
   obtain⟨y,ys,e,g1,g2⟩:=hr.eD
   simp only[List.map_cons,List.cons.injEq] at e
   obtain⟨rfl,rfl⟩:=e
   unfold vB at h
   cases hb:Nat.beq i n
   ·rw[hb] at h;cases h
   ·rw[hb,cond_true] at h
    have:=dY hb;subst this
    cases hu:mP R u v with
    |none=>simp only[hu] at h;cases h
    |some x=>
     cases hs:vB R u (i+1) ps with
     |none=>simp only[hu,hs] at h;cases h
     |some xs'=>
      simp only[hu,hs] at h
      obtain rfl:=Option.some.inj h
      obtain⟨a1,a2,a3,a4,a5⟩:=QJ hR hu g1
      rw[←hsz] at a4
      have hlen:rest.length=sz+xs'.length*sz:=by rw[h2,List.length_cons,Nat.succ_mul];omega
      have q1:(done++w.cells).length=(i+1)*sz:=by rw[List.length_append,h1,a4,Nat.succ_mul]
      have q2:(rest.drop sz).length=xs'.length*sz:=by rw[List.length_drop,hlen,Nat.add_sub_cancel_left]
      have q3:i+1+xs'.length≤len:=by rw[List.length_cons] at h3;omega
      obtain⟨vs,k1,k2,k3,k4⟩:=XL hsz ps qs xs' (i+1) (done++w.cells) (rest.drop sz) hs hi g2 q1 q2 q3
      refine⟨w::vs, ?_,by simp[k2],by simp[a1,k3], ?_⟩
      ·simp only[List.length_cons] at h3
       unfold ny
       simp only[if_pos (show i<len by omega)]
       rw[if_pos ⟨a4,by rw[List.length_append,h1,hlen];exact Nat.add_le_add_left (Nat.le_add_right _ _) _,ahv hR a1⟩]
       have:fB (done++rest) (i*sz) w.cells=done++w.cells++rest.drop sz:=by
        unfold fB
        rw[List.take_left' h1,a4,List.drop_append,h1,Nat.add_sub_cancel_left,List.drop_eq_nil_of_le (by omega)]
        rfl
       rw[this,k1]
       simp
      ·intro z hz
       rcases List.mem_cons.1 hz with rfl|hz
       ·exact⟨a4,a5⟩
       ·exact k4 z hz
theorem ahw {u:Ty} {sz:Nat} (hsz:sz=cZ R u) (h1:(gW u||sz==1)=true) {v:V} {x:Den R.T u} (he:er v=aF R u x) (hl:v.cells.length=sz):er (if gW u then .agg v.cells else v.cells.headD ay)=aF R u x:=by
 cases hs:gW u
 ·simp only[Bool.false_eq_true,if_false]
  have hne:∀cs,v≠ .agg cs:=by
   rintro cs rfl
   cases u<;>first| (simp[gW] at hs;done)| (simp[er,aF] at he;done)
  have:v.cells=[v]:=by cases v<;>first|rfl|exact absurd rfl (hne _)
  rw[this];exact he
 ·simp only[if_true]
  obtain⟨l,hl'⟩:=(AV hR u x).2.2.2.1 hs
  cases v<;>first|exact he| (rw[hl'] at he;simp[er] at he)
theorem ahx {t:TypeId} {len:Nat} {ps:List (Nat×TV R.T)} {qs:List (Nat×V)} {r:dO R} (h:Qo E R t len ps=some r) (hi:ps.map (·.1)=qs.map (·.1)) (hr:aA R ρ top (ps.map (·.2)) (qs.map (·.2))):nu ρ top (wO E t len qs) r:=by
 unfold Qo at h
 split at h
 ·rename_i e u sz d9 he
  obtain⟨z,e1,e2,e3,e4,e5,e6,e7,e8,e9⟩:=LH he
  ·obtain⟨hc,h⟩:=dQ h
   rw[Bool.and_eq_true] at hc
   split at h
   ·rename_i xs hx
    cases h
    have hlen:xs.length=len:=by
     have:∀(ps:List (Nat×TV R.T)) (n:Nat) (xs:List (Den R.T u)),vB R u n ps=some xs→xs.length=ps.length:=by
      intro ps
      induction ps with
      |nil=>intro n xs h;cases h;rfl
      |cons p ps ih=>
       intro n xs h
       obtain⟨i,v⟩:=p
       unfold vB at h
       obtain⟨_,h⟩:=dQ h
       cases hu:mP R u v with
       |none=>simp only[hu] at h;cases h
       |some x=>
        cases hs:vB R u (n+1) ps with
        |none=>simp only[hu,hs] at h;cases h
        |some xs'=>simp only[hu,hs] at h;cases h;simp[ih _ _ hs]
     rw[this ps 0 xs hx];exact dY hc.2
    obtain⟨vs,k1,k2,k3,k4⟩:=XL hR (len:=len) e6 ps qs xs 0 [] ((List.replicate len z.cells).flatten) hx hi hr (by simp) (by simp[e9,hlen]) (by omega)
    refine⟨.ak .full (xs.map (aF R u)), ?_,by unfold Rl;exact⟨.full,rfl,rfl⟩⟩
    unfold wO
    rw[e1];simp only[Option.bind_some,e2,e4,e5]
    rw[if_pos ⟨Nat.le_of_ble_eq_true hc.1,e9,e7,e8⟩]
    rw[List.nil_append,List.nil_append] at k1
    rw[k1]
    simp only[Option.bind_some]
    have hone:bL (vs.flatMap V.cells)=true:=by
     unfold bL
     rw[List.all_flatMap,List.all_eq_true]
     intro v hv;exact(k4 v hv).2
    rw[hone,if_pos rfl,←hlen,←k2,Q0 _ _ _ (fun v hv=>(k4 v hv).1),List.map_map]
    congr 2
    have:∀(vs:List V) (xs:List (Den R.T u)),vs.map er=xs.map (aF R u)→(∀v∈vs,v.cells.length=sz∧bL v.cells=true)→vs.map (er∘fun v=>if gW u then .agg v.cells else v.cells.headD ay)=xs.map (aF R u):=by
     intro vs
     induction vs with
     |nil=>intro xs h _;exact h
     |cons v vs ih=>
      intro xs h hk
      cases xs with
      |nil=>simp at h
      |cons x xs=>
       simp only[List.map_cons,List.cons.injEq] at h
       rw[List.map_cons,List.map_cons,ih xs h.2 (fun w hw=>hk w (by simp[hw]))]
       congr 1
       exact ahw hR e6 e8 h.1 (hk v (by simp)).1
    rw[this vs xs k3 k4]
   ·cases h
 ·cases h
theorem Q5 {u:Ty} (l:List (Den R.T u)):(l.map (aF R u)).all (fun v=>bL v.cells)=true:=by
 simp[List.all_map,(AV hR u _).2.1]
theorem Q6 {u:Ty} {ag:Bool} {y:TV R.T} {v z:V} {l:List (Den R.T u)} (h:FK R u y=some l) (hy:Rl R ρ top y v):jG σ ag (cZ R u) z v=some (l.map (aF R u))∧tH v=false:=by
 unfold FK at h
 split at h
 ·obtain⟨e,e2⟩:=pU h;subst e;cases e2
  obtain⟨c',rfl,_⟩:=hy.jY
  exact⟨by show (if mH _ _=true then _ else _)=_;rw[if_pos (LC hR _)],rfl⟩
 ·cases h;rw[hy.nT];exact⟨rfl,rfl⟩
 ·rename_i s
  obtain⟨e,e2⟩:=pU h;subst e;cases e2
  rw[hy.lg]
  exact⟨by show (if 1=1 then some (s.map kR) else none)=_;rw[if_pos rfl];exact congrArg some (XE (R:=R) s),rfl⟩
 ·cases h
theorem ahy {t e:TypeId} {sz d9:Nat} {ag:Bool} {z:V} {c:Cap} {l ys:List V} {y:V} {loc:Option Loc} {aB:Nat} {P:Program} (h1:iY P t=some e) (h2:bX P e=some sz) (h3:og P e=some d9) (h4:gY P e=some ag) (h5:gZ P e=some z)
 (h6:z.cells.length=sz) (h7:0<sz) (h8:(ag||sz==1)=true) (hy:jG σ ag sz z y=some ys) (hi:tH y=false) (ho:ys.all (fun v=>bL v.cells)=true) (hr:bN (l.length+ys.length) d9=true) (hh:mH sz l=true):
 iB P false false σ aB loc t (.ak c l) y=match c with
  |.own n s=>if n=sz∧σ.top s=l.length then some (.ak (.own n s) (l++ys),σ.dn s (l.length+ys.length)) else none
  |.nil|.full=>some (.ak (.own sz aB) (l++ys),σ.dn aB (l.length+ys.length))
  |_=>none:=by
 unfold iB
 simp only[h1,h2,h3,h4,h5,Option.bind_some,hi,hy,ho,if_true]
 rw[if_pos ⟨trivial,h6,h7,h8⟩]
 simp only[hr,hh,and_self,if_true]
 cases c<;>rfl
theorem ahz {d:Option Nat} {t u:TypeId} {x y:TV R.T} {v w:V} {r:dO R} {aB:Nat} {loc:Option Loc} {o:Oper} (h:FL E R d t u x y st=some r) (hx:Rl R ρ σ.top x v) (hy:Rl R ρ σ.top y w) (hi:aG ρ aB st fr σ)
 (ho:∀y σ',iB E.P false false σ aB loc t v w=some (y,σ')→kE E fr σ aB o y σ'):pX E st ρ aB fr σ o r:=by
 unfold FL at h
 split at h
 ·rename_i d
  split at h
  ·rename_i e τ sz d9 he
   obtain⟨z,e1,e2,e3,e4,e5,e6,e7,e8,e9⟩:=LH he
   ·obtain⟨hss,h⟩:=dQ h
    split at h
    ·rename_i tk l l' hd hs
     cases h
     intro hroom
     subst e6
     obtain⟨g1,g2⟩:=Q6 hR (ag:=gW τ) (z:=z) (σ:=σ) hs hy
     have hlen:bN ((l.map (aF R τ)).length+(l'.map (aF R τ)).length) d9=true:=by rw[List.length_map,List.length_map];exact hroom
     have hap:∀c,iB E.P false false σ aB loc t (.ak c (l.map (aF R τ))) w=_:=fun c=>ahy hR (σ:=σ) (c:=c) (loc:=loc) (aB:=aB) e1 e2 e3 e4 e5 e9 e7 e8 g1 g2 (Q5 hR l') hlen (LC hR l)
     have fresh:∀(c:Cap),(c= .nil∨c= .full)→v= .ak c (l.map (aF R τ))→∃x σ' ρ',kE E fr σ aB o x σ'∧aG ρ' (aB+1) (st.wk tk) fr σ'∧σ'.next=σ.next∧Rl R ρ' σ'.top (.ak (.own tk) τ (l++l')) x∧∀p,o.dst≠some p→bB true p st ρ σ (st.wk tk) ρ' σ':=by
      intro c hc hv
      subst hv
      have:=hap c
      refine⟨.ak (.own (cZ R τ) aB) (l.map (aF R τ)++l'.map (aF R τ)),σ.dn aB ((l.map (aF R τ)).length+(l'.map (aF R τ)).length),ρ.iA tk aB,ho _ _ (by rw[this];rcases hc with rfl|rfl<;>rfl), ?_,rfl, ?_, ?_⟩
      ·exact hi.wk tk aB _ (Nat.le_succ _) (Nat.lt_succ_self _) (fun u _ hu=>by have:=hi.lt u _ hu;omega)
      ·unfold Rl
       exact⟨_,by rw[List.map_append],.inr (.inr ⟨aB,rfl,by simp[aO.iA,upd],by rw[Fv];simp⟩)⟩
      ·exact fun p _=>bB.wk
     unfold WE at hd
     split at hd
     ·rename_i l0
      split at hd
      ·rename_i l1 hl1
       cases hd
       obtain⟨e,e2⟩:=pU hl1;subst e;cases e2
       obtain⟨c',rfl,hc'⟩:=hx.jY
       exact fresh c' (.inl hc') rfl
      ·cases hd
     ·rename_i l0
      split at hd
      ·rename_i l1 hl1
       cases hd
       obtain⟨e,e2⟩:=pU hl1;subst e;cases e2
       obtain⟨c',rfl,hc'⟩:=hx.jY
       exact fresh c' (.inr hc') rfl
      ·cases hd
     ·rename_i tk' τ' l0
      split at hd
      ·rename_i l1 hl1
       cases hd
       obtain⟨e,e2⟩:=pU hl1;subst e;cases e2
       obtain⟨c',rfl,hc'⟩:=hx.jY
       rcases hc' with hc'|hc'| ⟨s,hc',ht,hl⟩
       ·exact fresh c' (.inl hc') rfl
       ·exact fresh c' (.inr hc') rfl
       ·subst hc'
        have:=hap (.own (cZ R τ') s)
        dsimp only at this
        rw[if_pos ⟨rfl,by rw[List.length_map];exact hl⟩] at this
        refine⟨_,_,ρ.iA tk s,ho _ _ this, ?_,rfl, ?_, ?_⟩
        ·exact hi.wk tk s _ (Nat.le_succ _) (by have:=hi.lt tk s ht;omega) (fun u hu h'=>hu (hi.inj u tk s h' ht))
        ·unfold Rl
         exact⟨_,by rw[List.map_append],.inr (.inr ⟨s,rfl,by simp[aO.iA,upd],by rw[Fv];simp⟩)⟩
        ·exact fun p _=>bB.wk
      ·cases hd
     ·cases hd
      rw[hx.nT] at fresh
      have hx':=hx.nT
      subst hx'
      exact fresh .nil (.inl rfl) rfl
     ·cases hd
    ·cases h
  ·cases h
 ·cases h
omit hR in
theorem ahA {t:TypeId} {x:TV R.T} {v:V} {n:Nat} (h:Qq E t x st=some n) (hx:Rl R ρ σ.top x v) (hi:aG ρ b st fr σ):lq E σ t v=some n:=by
 unfold Qq at h
 unfold lq
 split at h
 ·rename_i hu;cases h;obtain⟨c',rfl,_⟩:=hx.jY;rw[hu];simp
 ·rename_i hu;cases h;rw[hx.nT,hu];rfl
 ·rename_i o t hu
  split at h
  ·rename_i t' l hl
   cases h
   have h1:=(hi.rd hl).1
   rcases hx.Aw with ⟨s,_,rfl⟩| ⟨h0,rfl|rfl⟩
   ·rw[hu];dsimp only;rw[h1]
   ·rw[hu];dsimp only;rw[h1,h0];rfl
   ·rw[hu];dsimp only;rw[h1,h0];rfl
  ·cases h
 ·rename_i hu;cases h;rw[hx.lg,hu]
 ·rename_i o hu
  split at h
  ·rename_i k e m hl
   cases h
   obtain⟨s,h1,rfl⟩:=hx.um
   obtain⟨s',h2,h3⟩:=hi.rd hl
   rw[h1] at h2;cases h2
   rw[hu];dsimp only;rw[h3];simp
  ·cases h
 ·rename_i hu;cases h;rw[hx.Av,hu];simp
 ·rename_i hu;cases h;unfold Rl at hx;subst hx;rw[hu]
 ·rename_i hu;cases h;rw[hu]
 ·cases h
omit hR in
theorem Q7 (mx:Bool):∀{l:List (TV R.T)} {x y:TV R.T} {v:V} {k:List V},Ah mx x l=some y→Rl R ρ top x v→aA R ρ top l k→∃w,jT mx v k=some w∧Rl R ρ top y w
 | [],x,y,v,k,h,hx,hl=>by
   rw[hl.fP]
   unfold Ah at h;cases h
   exact⟨v,by cases v<;>rfl,hx⟩
 |z::l,x,y,v,k,h,hx,hl=>by
  obtain⟨w,ws,rfl,h1,h2⟩:=hl.eD
  unfold Ah at h
  split at h
  ·rename_i hz;cases hz
  ·rename_i k a k' b l' hz
   simp only[List.cons.injEq] at hz
   obtain⟨rfl,rfl⟩:=hz
   split at h
   ·rename_i e;subst e
    rw[hx.fQ,h1.fQ]
    unfold jT
    rw[if_pos rfl]
    refine Q7 mx h ?_ h2
    unfold Rl
    cases mx<;>rfl
   ·cases h
  ·cases h
omit hR in
theorem XM (c:Cp):∀(l:List Ty) (p:lH R.T l),(jl R c l p).length=l.length
 | [],_=>rfl
 | [_],_=>rfl
 |_::u::l,p=>by show (jl R c (u::l) p.2).length+1=_;rw[XM c (u::l)];rfl
omit hR in
theorem LJ (c:Cp) (t:Ty) (x:Den R.T t):(fZ R c t x).cells.length=cZ R t:=by
 cases t with
 |st n=>exact XM c _ _
 |_=>rfl
omit hR in
theorem LK (t:Ty):∀l:List (Den R.T t),(l.flatMap fun x=>(fZ R .any t x).cells).length=l.length*cZ R t
 | []=>by simp
 |x::l=>by rw[List.flatMap_cons,List.length_append,LJ,LK t l,List.length_cons,Nat.succ_mul];omega
omit hR in
theorem XO {α:Type}:∀{l:List α} {i:Nat} {x:α},l[i]? =some x→∃a b,l=a++x::b∧a.length=i
 | [],_,_,h=>by simp at h
 |y::l,0,x,h=>by simp at h;subst h;exact⟨[],l,rfl,rfl⟩
 |y::l,i+1,x,h=>by
  obtain⟨a,b,rfl,hl⟩:=XO (l:=l) (i:=i) (by simpa using h)
  exact⟨y::a,b,rfl,by simp[hl]⟩
omit hR in
theorem ahB {α:Type} {l:List α} {i:Int} {x:α} (h:aL l i=some x):∃a b,l=a++x::b∧a.length=i.toNat∧0≤i:=by
 unfold aL at h
 split at h
 ·rename_i hi
  obtain⟨a,b,h1,h2⟩:=XO h
  exact⟨a,b,h1,h2,hi.1⟩
 ·cases h
omit hR in
theorem ahC {ag:Bool} {n off:Nat} {pre el post:List (TV R.T)} {v:TV R.T} (h:KZ ag n el off=some v):KZ ag n (pre++el++post) (pre.length+off)=some v:=by
 cases ag with
 |true=>
  have h':(bif Nat.ble (off+n) el.length then some (TV.agg ((el.drop off).take n)) else none)=some v:=h
  obtain⟨hb,h'⟩:=dQ h'
  have hle:=Nat.le_of_ble_eq_true hb
  show (bif Nat.ble (pre.length+off+n) (pre++el++post).length then some (TV.agg (((pre++el++post).drop (pre.length+off)).take n)) else none)=some v
  have hb':Nat.ble (pre.length+off+n) (pre++el++post).length=true:=Nat.ble_eq_true_of_le (by simp;omega)
  rw[hb',cond_true,←h']
  congr 2
  have e1:(pre++el++post).drop (pre.length+off)=(el++post).drop off:=by
   rw[List.append_assoc,List.drop_append,List.drop_eq_nil_of_le (by omega)]
   simp
  rw[e1,List.drop_append,List.take_append]
  have e2:n-(el.drop off).length=0:=by simp;omega
  rw[e2];simp
 |false=>
  have h':el[off]? =some v:=h
  show (pre++el++post)[pre.length+off]? =some v
  have hlt:off<el.length:=by rw[List.getElem?_eq_some_iff] at h';exact h'.1
  rw[List.append_assoc,List.getElem?_append_right (by omega),Nat.add_sub_cancel_left,List.getElem?_append_left hlt]
  exact h'
omit hR in
theorem ahD {t:TypeId} {off:Nat} {pre el post:List (TV R.T)} {v:TV R.T} (h:jK E t el off=some v):jK E t (pre++el++post) (pre.length+off)=some v:=by
 unfold jK at h⊢
 cases h1:gY E.P t with
 |none=>simp only[h1] at h;cases h
 |some a=>
  cases h2:bX E.P t with
  |none=>simp only[h1,h2] at h;cases h
  |some n=>simp only[h1,h2] at h⊢;exact ahC h
omit hR in
theorem ahE {t:TypeId} {off:Nat} {cs cs':List (TV R.T)} (hl:cs.length=cs'.length) (h:(jK E t cs off).isSome=true):∃v,jK E t cs' off=some v:=by
 unfold jK at h⊢
 cases h1:gY E.P t with
 |none=>simp only[h1] at h;cases h
 |some a=>
  cases h2:bX E.P t with
  |none=>simp only[h1,h2] at h;cases h
  |some n=>
   simp only[h1,h2] at h⊢
   cases a with
   |true=>
    have h':(bif Nat.ble (off+n) cs.length then some (TV.agg ((cs.drop off).take n)) else none).isSome=true:=h
    cases hb:Nat.ble (off+n) cs.length
    ·rw[hb] at h';cases h'
    ·exact⟨.agg ((cs'.drop off).take n),by show (bif Nat.ble (off+n) cs'.length then _ else _)=_;rw[←hl,hb];rfl⟩
   |false=>
    have h':cs[off]?.isSome=true:=h
    have hlt:off<cs'.length:=by rw[←hl];simpa using h'
    exact⟨cs'[off],List.getElem?_eq_getElem hlt⟩
omit hR in
theorem XP {o s:Nat} {τ:Ty} {l:List (Den R.T τ)} {i:Int} {y:Den R.T τ} (hO:eX ρ σ o (.arr τ l)) (hs:ρ.ob o=some s) (hy:aL l i=some y):
 ∃a b cs,l=a++y::b∧a.length=i.toNat∧σ.cu (1,o) s=some cs∧aA R ρ σ.top ((a.flatMap fun x=>(fZ R .any τ x).cells)++(fZ R .any τ y).cells++b.flatMap fun x=>(fZ R .any τ x).cells) cs∧(a.flatMap fun x=>(fZ R .any τ x).cells).length=i.toNat*cZ R τ:=by
 obtain⟨a,b,rfl,h1,h2⟩:=ahB hy
 rcases hO.2 with h| ⟨s',cs,h3,h4,h5⟩
 ·exact absurd h.1 (by simp)
 ·rw[hs] at h3;cases h3
  refine⟨a,b,cs,rfl,h1,h4, ?_,by rw[LK,h1]⟩
  rw[List.flatMap_append,List.flatMap_cons] at h5
  rw[List.append_assoc];exact h5
omit hR in
theorem ahF {t:TypeId} {o s off:Nat} {τ:Ty} {i:Int} {ob:Ob R.T} {r:dO R} (h:Qt E R t τ i off ob=some r) (hO:eX ρ σ o ob) (hs:ρ.ob o=some s):∃(l:List (Den R.T τ)) (f:Den R.T τ→TV R.T),r= .p (Den R.T τ) (zO R τ) (aL l i) f∧
 ∀y,aL l i=some y→∃cs w,σ.cu (1,o) s=some cs∧fJ E.P t cs (i.toNat*cZ R τ+off)=some w∧Rl R ρ σ.top (f y) w:=by
 unfold Qt at h
 split at h
 ·rename_i τ' l0
  split at h
  ·rename_i l1 hl
   obtain⟨e,e2⟩:=pU hl;subst e;cases e2
   obtain⟨hb,h⟩:=dQ h
   cases h
   refine⟨l0,_,rfl,fun y hy=> ?_⟩
   obtain⟨a,b,cs,h1,h2,h3,h4,h5⟩:=XP hO hs hy
   obtain⟨v,hv⟩:=ahE (cs':=(fZ R .any τ' y).cells) (by rw[LJ,LJ]) hb
   have:=ahD (pre:=a.flatMap fun x=>(fZ R .any τ' x).cells) (post:=b.flatMap fun x=>(fZ R .any τ' x).cells) hv
   rw[h5] at this
   obtain⟨w,hw,hr⟩:=uw h4 this
   exact⟨cs,w,h3,hw,by rw[hv];exact hr⟩
  ·cases h
 ·cases h
theorem ahG {τ:Ty} {cs:List (TV R.T)} {x:Den R.T τ} {vs:List V} (h:Qu R τ cs=some x) (hr:aA R ρ top cs vs):aA R ρ top (fZ R .any τ x).cells vs:=by
 have one:∀(t:Ty) (x:Den R.T t),mh t=true→nP R t (hd1 R cs)=some x→aA R ρ top [u6 R .any t x] vs:=by
  intro t x ht h
  cases cs with
  |nil=>cases t<;>cases h
  |cons c cs=>
   cases cs with
   |nil=>
    obtain⟨v,l,rfl,h1,h2⟩:=hr.eD
    rw[h2.fP]
    exact .cons' (xO hR h h1) rfl
   |cons c' cs=>cases t<;>cases h
 cases τ with
 |st n=>
  have:=F5 hR (t:=.st n) (show mP R (.st n) (.agg cs)=some x from h) (v:=.agg vs) (by unfold Rl;exact⟨vs,rfl,hr⟩)
  obtain⟨l,e,hl⟩:=Rl.jM this
  cases e;exact hl
 |int k=>exact one (.int k) x rfl h
 |bool=>exact one .bool x rfl h
 |str=>exact one .str x rfl h
 |slice t=>exact one (.slice t) x rfl h
omit hR in
theorem ahH {α:Type} (pre el post vs:List α) (off:Nat) (h:off+vs.length≤el.length):(pre++el++post).take (pre.length+off)++vs++(pre++el++post).drop (pre.length+off+vs.length)=pre++(el.take off++vs++el.drop (off+vs.length))++post:=by
 have e1:(pre++el++post).take (pre.length+off)=pre++el.take off:=by
  rw[List.append_assoc,List.take_append,List.take_of_length_le (by omega),Nat.add_sub_cancel_left,List.take_append,Nat.sub_eq_zero_of_le (by omega)]
  simp
 have e2:(pre++el++post).drop (pre.length+off+vs.length)=el.drop (off+vs.length)++post:=by
  rw[List.append_assoc,List.drop_append,List.drop_eq_nil_of_le (by omega),show pre.length+off+vs.length-pre.length=off+vs.length by omega,List.drop_append,Nat.sub_eq_zero_of_le (by omega)]
  simp
 rw[e1,e2]
 simp
theorem ahI {o s off:Nat} {τ:Ty} {i:Int} {l:List (Den R.T τ)} {y y':Den R.T τ} {vc:List (TV R.T)} {vl:List V} (hO:eX ρ σ o (.arr τ l)) (hs:ρ.ob o=some s) (hy:aL l i=some y) (hv:aA R ρ σ.top vc vl) (hle:off+vc.length≤cZ R τ)
 (hu:Qu R τ (zZ (fZ R .any τ y).cells off vc)=some y'):∃cs,σ.cu (1,o) s=some cs∧i.toNat*cZ R τ+off+vl.length≤cs.length∧aA R ρ σ.top ((kZ l i y').flatMap fun x=>(fZ R .any τ x).cells) (fB cs (i.toNat*cZ R τ+off) vl)∧(kZ l i y').length=l.length:=by
 obtain⟨a,b,cs,rfl,h2,h3,h4,h5⟩:=XP hO hs hy
 obtain⟨p1,post,rfl,g1,g2⟩:=h4.split
 obtain⟨pre,el,rfl,g3,g4⟩:=g1.split
 have l1:pre.length=i.toNat*cZ R τ:=by rw[g3.length,h5]
 have l2:el.length=cZ R τ:=by rw[g4.length,LJ]
 have l3:=hv.length
 refine⟨_,h3, ?_, ?_, ?_⟩
 ·rw[List.length_append,List.length_append];omega
 ·have e:kZ (a++y::b) i y'=a++y'::b:=by
   unfold kZ
   rw[←h2,List.set_append_right _ _ (Nat.le_refl _),Nat.sub_self];rfl
  rw[e,List.flatMap_append,List.flatMap_cons,←List.append_assoc]
  have e2:fB (pre++el++post) (i.toNat*cZ R τ+off) vl=pre++fB el off vl++post:=by
   unfold fB
   rw[←l1];exact ahH pre el post vl off (by omega)
  rw[e2]
  exact(g3.append (ahG hR hu (QV off g4 hv))).append g2
 ·unfold kZ;rw[List.length_set]
theorem ahJ (τ:Ty) (x:Den R.T τ):aA R ρ top (fZ R .any τ x).cells (aF R τ x).cells:=by
 refine(uq ?_ (Lr hR .any (.inl rfl) τ x)).1
 cases τ<;>rfl
theorem AX (τ:Ty):∀l:List (Den R.T τ),aA R ρ top (l.flatMap fun x=>(fZ R .any τ x).cells) ((l.map (aF R τ)).flatMap V.cells)
 | []=>rfl
 |x::l=>by
  rw[List.map_cons,List.flatMap_cons,List.flatMap_cons]
  exact(ahJ hR τ x).append (AX τ l)
theorem ahK {t e:TypeId} {sz d9:Nat} {ag:Bool} {z:V} {ys:List V} {x y:V} {loc:Option Loc} {aB:Nat} {P:Program} (h1:iY P t=some e) (h2:bX P e=some sz) (h3:og P e=some d9) (h4:gY P e=some ag) (h5:gZ P e=some z)
 (h6:z.cells.length=sz) (h7:0<sz) (h8:(ag||sz==1)=true) (hy:jG σ ag sz z y=some ys) (hi:tH y=false) (ho:ys.all (fun v=>bL v.cells)=true):
 iB P true false σ aB loc t x y=match x with
  |.ak c l=>if bN (l.length+ys.length) d9=true∧mH sz l=true then
     match c with
     |.nil=>loc.map fun loc=>(.vw loc aB 0 (l.length+ys.length) (l.length+ys.length) sz ag,σ.setObj loc aB (.cells ((l++ys).flatMap V.cells)))
     |.full=>if ys.isEmpty then some (.ak .full l,σ) else loc.map fun loc=>(.vw loc aB 0 (l.length+ys.length) (l.length+ys.length) sz ag,σ.setObj loc aB (.cells ((l++ys).flatMap V.cells)))
     |_=>none else none
  |.vw ig s off len cap bf _=>
   if bN (len+ys.length) d9=true∧off=0∧bf=sz then
    loc.bind fun loc=>(σ.cu ig s).bind fun cs=>
     if len+ys.length≤cap then
      if (len+ys.length)*sz≤cs.length then
       some (.vw ig s 0 (len+ys.length) cap sz ag,σ.setObj ig s (.cells (fB cs (len*sz) (ys.flatMap V.cells))))
      else none
     else if len*sz≤cs.length then
      some (.vw loc aB 0 (len+ys.length) (len+ys.length) sz ag,(σ.jQ ig).setObj loc aB (.cells (cs.take (len*sz)++ys.flatMap V.cells)))
     else none
   else none
  |_=>none:=by
 unfold iB
 simp only[h1,h2,h3,h4,h5,Option.bind_some,hi,hy,ho,if_true]
 rw[if_pos ⟨trivial,h6,h7,h8⟩]
 cases x<;>try rfl
 ·rename_i c l
  cases c<;>rfl
 ·simp only[true_and]
omit hR in
theorem bB.QL {o q s n:Nat} {x:Ob R.T} {a:fV} (hne:q≠o):bB true q st ρ σ (st.new o x) (ρ.xM o s n) (σ.setObj (1,o) s a):=⟨(QK q hne).1,(QK q hne).2,rfl,Nat.le_refl _,fun _ _=>rfl,fun _ _ _ ha=>QT ha,(bB.new (nr:=true) (ρ:=ρ) (s:=s) (a:=a) hne).ro⟩
omit hR in
theorem bB.del {o q:Nat} {y:Ob R.T} (hl:look st.ob o=some y) (hy:mQ y=false):bB true q st ρ σ (st.del o) ρ (σ.jQ (1,o)):=⟨rfl,rfl,rfl,Nat.le_refl _,fun _ _=>rfl,fun _ _ _ ha=>ahe ha,fun hr=>by
 have hne:q≠o:=by rintro rfl;rw[hr y hl] at hy;cases hy
 refine⟨fun z hz=> ?_,fun s'=> ?_⟩
 ·have hz':look (gV o st.ob) q=some z:=hz
  rw[nU hne] at hz'
  exact hr z hz'
 ·unfold ah.cu ah.fH;rw[Xa σ hne];exact⟨rfl,rfl⟩⟩
omit hR in
theorem bB.del' {o q:Nat} {y:Ob R.T} (hl:look st.ob o=some y) (hy:mQ y=false):bB true q st ρ σ (st.del o) ρ σ:=⟨rfl,rfl,rfl,Nat.le_refl _,fun _ _=>rfl,fun _ _ _ _=>rfl,fun hr=>by
 have hne:q≠o:=by rintro rfl;rw[hr y hl] at hy;cases hy
 refine⟨fun z hz=> ?_,fun s'=>⟨rfl,rfl⟩⟩
 have hz':look (gV o st.ob) q=some z:=hz
 rw[nU hne] at hz'
 exact hr z hz'⟩
omit hR in
theorem Q8 {α:Type} {p:Nat}:∀l:List (Nat×α),look (gV p l) p=none
 | []=>rfl
 | (j,x)::l=>by
   unfold gV
   cases hj:Nat.beq j p
   ·show (bif Nat.beq j p then some x else look (gV p l) p)=none
    rw[hj];exact Q8 l
   ·exact Q8 l
omit hR in
theorem aG.del' (h:aG ρ b st fr σ) (o:Nat):aG ρ b (st.del o) fr σ:={h with
 ob:=fun p y hy=>by
  by_cases e:p=o
  ·subst e
   have:look (gV p st.ob) p=some y:=hy
   rw[Q8] at this;cases this
  ·have hy':look (gV o st.ob) p=some y:=hy
   rw[nU e] at hy'
   exact h.ob p y hy'
 fr:=h.fr}
omit hR in
theorem AY {d aB:Nat} {τ:Ty} {l:List (Den R.T τ)} {L:List V} {st0:MS R.T} {σ0:ah} {o:Oper} {v:V} {σ1:ah} (hd:o.dst=some d) (hi:aG ρ (aB+1) st0 fr σ0) (hk:∀p,bB true p st ρ σ st0 ρ σ0) (hn:σ0.next=σ.next) (hL:aA R ρ σ0.top (l.flatMap fun x=>(fZ R .any τ x).cells) L)
 (hs:kE E fr σ aB o v σ1) (hv:v= .vw (1,d) aB 0 l.length l.length (cZ R τ) (gW τ)) (h1:σ1=σ0.setObj (1,d) aB (.cells L)):∃x σ' ρ',kE E fr σ aB o x σ'∧aG ρ' (aB+1) (st0.new d (.arr τ l)) fr σ'∧σ'.next=σ.next∧Rl R ρ' σ'.top (.vw d τ) x∧∀p,o.dst≠some p→bB true p st ρ σ (st0.new d (.arr τ l)) ρ' σ':=by
 subst hv;subst h1
 refine⟨_,_,ρ.xM d aB l.length,hs,hi.QL d aB l.length ⟨(F4 (ρ:=ρ.kC d aB)).symm,.inr ⟨aB,L,pW (ρ:=ρ),qC _ _ _ _,vJ l L hL⟩⟩,hn, ?_,fun p hp=> ?_⟩
 ·unfold Rl
  exact .inl ⟨aB,pW (ρ:=ρ),by rw[show (ρ.xM d aB l.length).ln d=l.length from F4 (ρ:=ρ.kC d aB)]⟩
 ·have hne:p≠d:=fun e=>hp (by rw[hd,e])
  exact(hk p).trans (bB.QL hne)
theorem ahL {d:Option Nat} {t u:TypeId} {x y:TV R.T} {v w:V} {r:dO R} {aB:Nat} {o:Oper} (h:FM E R d t u x y st=some r) (hx:Rl R ρ σ.top x v) (hy:Rl R ρ σ.top y w) (hi:aG ρ aB st fr σ) (hd:o.dst=d)
 (ho:∀y σ',iB E.P true false σ aB (d.map fun t=>(1,t)) t v w=some (y,σ')→kE E fr σ aB o y σ'):pX E st ρ aB fr σ o r:=by
 have hi1:=hi.le (Nat.le_succ aB)
 unfold FM at h
 split at h
 ·rename_i d
  split at h
  ·rename_i e τ sz d9 he
   obtain⟨z,e1,e2,e3,e4,e5,e6,e7,e8,e9⟩:=LH he
   obtain⟨hss,h⟩:=dQ h
   split at h
   ·rename_i l' hs
    subst e6
    obtain⟨g1,g2⟩:=Q6 hR (ag:=gW τ) (z:=z) (σ:=σ) hs hy
    have hap:=fun x=>ahK hR (σ:=σ) (x:=x) (loc:=some (1,d)) (aB:=aB) e1 e2 e3 e4 e5 e9 e7 e8 g1 g2 (Q5 hR l')
    split at h
    ·rename_i p τ0 _
     split at h
     ·rename_i e0
      subst e0
      split at h
      ·rename_i τ' l0 hl
       split at h
       ·rename_i a l1 l2 hl2
        obtain⟨e,e2'⟩:=pU hl2;subst e;cases e2'
        cases h
        intro hroom
        have hO:=hi.ob _ _ hl
        have hlen:l0.length=ρ.ln p:=hO.1
        have hnr:mQ (Ob.arr τ' l0)=false:=rfl
        have hne:¬((a::l1).map (aF R τ')).isEmpty=true:=by simp
        rcases hx.Aw with ⟨s,k1,rfl⟩| ⟨k1,k2⟩
        ·rcases hO.2 with hO2| ⟨s',cs,k3,k4,k5⟩
         ·rw[k1] at hO2;exact absurd hO2.2 (by simp)
         ·rw[k1] at k3;cases k3
          have:=hap (.vw (1,p) s 0 (ρ.ln p) (ρ.ln p) (cZ R τ') (gW τ'))
          dsimp only at this
          have hlc:cs.length=l0.length*cZ R τ':=by rw[k5.length,LK]
          rw[if_pos ⟨by rw[List.length_map,←hlen];exact hroom,rfl,rfl⟩] at this
          simp only[Option.bind_some,k4] at this
          rw[if_neg (by rw[List.length_map,List.length_cons];omega),if_pos (by rw[hlc,hlen];exact Nat.le_refl _)] at this
          refine AY (σ0:=σ.jQ (1,p)) (L:=cs.take (ρ.ln p*cZ R τ')++((a::l1).map (aF R τ')).flatMap V.cells) hd (hi1.del p) (fun q=>bB.del hl hnr) rfl ?_ (ho _ _ this) ?_ rfl
          ·rw[List.flatMap_append,List.take_of_length_le (by rw[hlc,hlen];exact Nat.le_refl _)]
           exact aA.append k5 (AX hR _ _)
          ·rw[List.length_map,List.length_append,hlen]
        ·have hl0:l0=[]:=List.eq_nil_of_length_eq_zero (by omega)
         subst hl0
         have hroom':bN (([]:List V).length+((a::l1).map (aF R τ')).length) d9=true∧mH (cZ R τ') ([]:List V)=true:=⟨by rw[List.length_map];exact hroom,rfl⟩
         rcases k2 with rfl|rfl
         ·have:=hap (.ak .nil [])
          dsimp only at this
          rw[if_pos hroom'] at this
          refine AY (σ0:=σ) hd (hi1.del' p) (fun q=>bB.del' hl hnr) rfl (AX hR _ _) (ho _ _ this) ?_ rfl
          simp
         ·have:=hap (.ak .full [])
          dsimp only at this
          rw[if_pos hroom',if_neg hne] at this
          refine AY (σ0:=σ) hd (hi1.del' p) (fun q=>bB.del' hl hnr) rfl (AX hR _ _) (ho _ _ this) ?_ rfl
          simp
       ·cases h
      ·cases h
     ·cases h
    ·obtain⟨hE,h⟩:=dQ h
     cases h
     intro hroom
     have hroom':bN (([]:List V).length+(l'.map (aF R τ)).length) d9=true∧mH (cZ R τ) ([]:List V)=true:=⟨by rw[List.length_map,List.length_nil,Nat.zero_add];exact hroom,rfl⟩
     rcases Xt (fr:=fr) hE (.of hx) with rfl|rfl
     ·have:=hap (.ak .nil [])
      dsimp only at this
      rw[if_pos hroom'] at this
      refine AY (σ0:=σ) hd hi1 (fun q=>.refl) rfl (AX hR _ _) (ho _ _ this) ?_ rfl
      simp
     ·have:=hap (.ak .full [])
      dsimp only at this
      rw[if_pos hroom'] at this
      by_cases hne:((l'.map (aF R τ)).isEmpty)=true
      ·rw[if_pos hne] at this
       have hl':l'=[]:=by simpa using hne
       subst hl'
       refine⟨_,_,ρ.gh d,ho _ _ this,hi1.ghost d τ,rfl,by unfold Rl;exact .inr ⟨F4 (ρ:=ρ) (n:=0),.inr rfl⟩,fun p hp=> ?_⟩
       have Q9:p≠d:=fun e=>hp (by rw[hd,e])
       exact⟨(AL p Q9).1,(AL p Q9).2,rfl,Nat.le_refl _,fun _ _=>rfl,fun _ _ _ _=>rfl,fun hr=>⟨((bB.new (nr:=true) (ρ:=ρ) (σ:=σ) (s:=0) (a:=.cells []) Q9).ro hr).1,fun _=>⟨rfl,rfl⟩⟩⟩
      ·rw[if_neg hne] at this
       refine AY (σ0:=σ) hd hi1 (fun q=>.refl) rfl (AX hR _ _) (ho _ _ this) ?_ rfl
       simp
   ·cases h
  ·cases h
 ·cases h
omit hR in
theorem XQ {α β:Type} (f:α→List β) (x:α):∀n,(List.replicate n x).flatMap f=(List.replicate n (f x)).flatten
 |0=>rfl
 |n+1=>by rw[List.replicate_succ,List.replicate_succ,List.flatMap_cons,List.flatten_cons,XQ f x n]
omit hR in
theorem XR {ts:List (TV R.T)} {vs:List V} (h:aA R ρ top ts vs):∀n,aA R ρ top (List.replicate n ts).flatten (List.replicate n vs).flatten
 |0=>rfl
 |n+1=>by rw[List.replicate_succ,List.replicate_succ,List.flatten_cons,List.flatten_cons];exact h.append (XR h n)
theorem ahM {om:Bool} {d:Option Nat} {t:TypeId} {x y:TV R.T} {v w:V} {r:dO R} {aB:Nat} {o:Oper} (h:Qp E R om d t x y st=some r) (hx:Rl R ρ σ.top x v) (hy:Rl R ρ σ.top y w) (hi:aG ρ aB st fr σ) (hd:o.dst=d)
 (ho:∀y σ',qj E.P om σ aB (d.map fun t=>(1,t)) t v w=some (y,σ')→kE E fr σ aB o y σ'):pX E st ρ aB fr σ o r:=by
 have hi1:=hi.le (Nat.le_succ aB)
 unfold Qp at h
 split at h
 ·rename_i d e τ sz d9 k n k' m he
  obtain⟨z0,e1,e2,e3,e4,e5,e6,e7,e8,e9⟩:=LH he
  split at h
  ·rename_i z hz
   split at h
   ·rename_i x0 hx0
    obtain⟨zv,z1,z2⟩:=AU (ρ:=ρ) (top:=σ.top) hz
    rw[e5] at z1;cases z1
    rw[hx.fQ,hy.fQ] at ho
    have mk:0≤n→n≤m→m≤2^47→bN m.toNat d9=true→qj E.P om σ aB ((some d).map fun t=>(1,t)) t (.int k n) (.int k' m)=if n=0∧om=false then some (.ak (.own sz aB) [],σ.dn aB 0) else some (.vw (1,d) aB 0 n.toNat m.toNat sz (gW τ),σ.setObj (1,d) aB (.cells (List.replicate m.toNat z0.cells).flatten)):=by
     intro h1 h2 h3 h4
     unfold qj
     simp only[e1,e2,e3,e5,Option.bind_some,kI]
     rw[if_pos ⟨h1,h2,h4,h3,e9⟩]
     split
     ·rfl
     ·simp only[Option.map_some,Option.bind_some,e4]
    cases om with
    |true=>
     cases h
     intro hc
     rw[Bool.and_eq_true] at hc
     obtain⟨c1,c2,c3⟩:=of_decide_eq_true hc.1
     subst c2
     have:=mk c1 (Int.le_refl _) c3 hc.2
     rw[if_neg (by simp)] at this
     subst e6
     refine AY (σ0:=σ) hd hi1 (fun q=>.refl) rfl ?_ (ho _ _ this) ?_ rfl
     ·rw[XQ]
      refine XR ?_ _
      have hzc:aA R ρ σ.top (fZ R .any τ x0).cells z0.cells:=by
       have h1:=F5 hR hx0 z2
       refine(uq ?_ h1).1
       cases τ<;>rfl
      exact hzc
     ·rw[List.length_replicate]
    |false=>
     cases h
     intro hc
     rw[Bool.and_eq_true] at hc
     obtain⟨c1,c2,c3⟩:=of_decide_eq_true hc.1
     subst c1
     have:=mk (Int.le_refl _) c2 c3 hc.2
     rw[if_pos ⟨rfl,rfl⟩] at this
     refine⟨_,_,ρ.iA d aB,ho _ _ this,hi.wk d aB _ (Nat.le_succ _) (Nat.lt_succ_self _) (fun u _ hu=>by have:=hi.lt u _ hu;omega),rfl, ?_,fun p _=>bB.wk⟩
     unfold Rl
     exact⟨_,rfl,.inr (.inr ⟨aB,by rw[e6],by simp[aO.iA,upd],by rw[Fv];rfl⟩)⟩
   ·cases h
  ·cases h
 ·cases h
theorem ahN {om:Bool} {t:TypeId} {p:Nat} {τ:Ty} {y:TV R.T} {v w:V} {r:dO R} (h:Qs E R t p τ y st=some r) (hx:Rl R ρ σ.top (.vw p τ) v) (hy:Rl R ρ σ.top y w) (hi:aG ρ b st fr σ):nu ρ σ.top (lU E.P t v w) r:=by
 unfold Qs at h
 split at h
 ·rename_i e k n hu
  split at h
  ·rename_i sz hs
   obtain⟨hb,h⟩:=dQ h
   split at h
   ·rename_i τ' l hl
    cases h
    have:=dY hb;subst this
    rw[hy.fQ]
    intro hc
    have hc':=of_decide_eq_true hc
    have hlen:=(hi.rd hl).1
    rcases hx.Aw with ⟨s,k1,rfl⟩| ⟨h0,_⟩
    ·refine⟨.ref (1,p) s (n.toNat*cZ R τ), ?_,by unfold Rl;exact⟨s,k1,hc'.1,rfl⟩⟩
     unfold lU
     rw[hu]
     simp only[hs,Option.bind_some,idx,kI]
     rw[if_pos ⟨hc'.1,by rw[←hlen];exact hc'.2⟩]
     simp
    ·rw[hlen,h0] at hc';omega
   ·cases h
  ·cases h
 ·cases h
end
end Aq
end
