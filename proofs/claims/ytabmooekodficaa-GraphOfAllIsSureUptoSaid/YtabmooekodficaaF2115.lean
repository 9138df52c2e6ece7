import Derived.ChangeSame
import Derived.ChangeShapes
import Derived.ChangeStays
import Derived.RowKit
import Derived.Test.YtabmooekodficaaF2114
import Derived.WideShapes
set_option linter.all false
section
namespace Aq
open Go Go.RowKit
mutual
def Pg:V->Nat
 |.str s=>s.length+1
 |.agg cs=>ze cs
 |.lst _ l=>ze l+1
 |_=>1
def ze:List V->Nat
 | []=>0
 |v::l=>Pg v+ze l
end
def badI (k:IntKind) (n:Int):Nat:=if (Lit.int k n).wf=true then 0 else 2^64
theorem Ph {k:IntKind} {n:Int} (h:(Lit.int k n).wf=true):badI k n=0:=if_pos h
mutual
def vsr:V->Nat
 |.str s=>s.length+1
 |.agg cs=>vsrL cs
 |.lst _ l=>vsrL l+1
 |.int k n=>1+badI k n
 |_=>1
def vsrL:List V->Nat
 | []=>0
 |v::l=>vsr v+vsrL l
end
theorem vsrL_len (l:List V) (h:∀v∈l,0<vsr v):l.length<=vsrL l:=by
 induction l with
 |nil=>simp[vsrL]
 |cons v l ih=>
  have:=h v (by simp)
  have:=ih fun u hu=>h u (by simp[hu])
  simp only[vsrL,List.length_cons];omega
structure Bulk (H:Type) (bk:DataW H->Nat) (bs:List (DataW H)->Nat):Prop where
 one:∀d,1<=bk d
 str:∀s,s.length+1<=bk (.lit (.string s))
 agg:∀l,bs l<=bk (.agg l)
 sl:∀l r,bs l+1<=bk (.slice l r)
 nil:bs []=0
 cons:∀d l,bs (d::l)=bk d+bs l
section
variable {H:Type} {bk:DataW H->Nat} {bs:List (DataW H)->Nat} (hb:Bulk H bk bs)
include hb
theorem Bulk.append (a b:List (DataW H)):bs (a++b)=bs a+bs b:=by
 induction a with
 |nil=>simp[hb.nil]
 |cons v a ih=>simp only[List.cons_append,hb.cons,ih];omega
end
def gK {α β γ:Type} (Q:α->β->γ->Prop):List α->List β->List γ->Prop
 | [],[],[]=>True
 |t::ts,c::cs,d::ds=>Q t c d/\gK Q ts cs ds
 |_,_,_=>False
theorem gK.append {α β γ:Type} {Q:α->β->γ->Prop}:∀{a a':List α} {b b':List β} {c c':List γ},gK Q a b c->gK Q a' b' c'->gK Q (a++a') (b++b') (c++c')
 | [],_,[],_,[],_,_,h=>h
 |_::_,_,_::_,_,_::_,_,h,h'=>⟨h.1,h.2.append h'⟩
 | [],_,_::_,_,_,_,h,_=>h.elim
 | [],_,[],_,_::_,_,h,_=>h.elim
 |_::_,_,[],_,_,_,h,_=>h.elim
 |_::_,_,_::_,_,[],_,h,_=>h.elim
theorem gK.mono {α β γ:Type} {Q Q':α->β->γ->Prop} (hq:∀a b c,Q a b c->Q' a b c):∀{a:List α} {b:List β} {c:List γ},gK Q a b c->gK Q' a b c
 | [],[],[],_=>trivial
 |_::_,_::_,_::_,h=>⟨hq _ _ _ h.1,h.2.mono hq⟩
 | [],_::_,_,h=>h.elim
 | [],[],_::_,h=>h.elim
 |_::_,[],_,h=>h.elim
 |_::_,_::_,[],h=>h.elim
theorem gK.len {α β γ:Type} {Q:α->β->γ->Prop}:∀{a:List α} {b:List β} {c:List γ},gK Q a b c->a.length=b.length
 | [],[],[],_=>rfl
 |_::_,_::_,_::_,h=>by simp[h.2.len]
 | [],_::_,_,h=>h.elim
 | [],[],_::_,h=>h.elim
 |_::_,[],_,h=>h.elim
 |_::_,_::_,[],h=>h.elim
section
variable (P:Program)
def qF (t:TypeId):Option (List (Nat×TypeId)):=match P.underlying t with
 |some (.struct fs)=>some (fs.toList.map fun f=>(f.offset,f.type))
 |some (.array n e)=>some ((List.range n).map fun i=>(i*P.cellsOf e,e))
 |_=>none
def nQ (t:TypeId):Bool:=match P.underlying t with
 |some .bool=>true
 |some (.int _)=>true
 |some .string=>true
 |some (.slice _)=>true
 |_=>false
def qG:List (Nat×TypeId)->Nat->Nat->Bool
 | [],off,tot=>off==tot
 | (o,u)::l,off,tot=>o==off&& qG l (off+P.cellsOf u) tot
def nR:Nat->TypeId->Option (List TypeId)
 |0,_=>none
 |k+1,t=>match qF P t with
  |some ps=>if qG P ps 0 (P.cellsOf t)=true then (ps.mapM fun (p:Nat×TypeId)=>match nR k p.2 with
    |some l=>if l.length=P.cellsOf p.2 then some l else none
    |none=>none).map List.flatten else none
  |none=>if nQ P t=true/\P.cellsOf t=1 then some [t] else none
end
section
variable {P:Program} {w:World} {H:Type} {enc:TypeId×Value->H} {bk:DataW H->Nat} {bs:List (DataW H)->Nat}
abbrev cB (enc:TypeId×Value->H) (P:Program) (w:World) (f:Nat) (t:TypeId) (cs:List Value):Option (DataW H×List MemPlace):=DataW.trod enc P w 0 (fun _=>true) true f t cs
theorem Pj {fuel:Nat} {t:TypeId} {cs:List Value} {d:DataW H} {ps:List MemPlace} {pl:List (Nat×TypeId)} (hp:qF P t=some pl) (h:cB enc P w (fuel+1) t cs=some (d,ps)):
 cs.length=P.cellsOf t/\∃xs,pl.mapM (fun p=>cB enc P w fuel p.2 ((cs.drop p.1).take (P.cellsOf p.2)))=some xs/\d= .agg (xs.map (·.1)):=by
 unfold qF at hp
 split at hp
 ·rename_i fs hu
  simp only[iE] at hp
  subst hp
  simp only[cB,DataW.trod,hu] at h
  split at h
  ·rename_i hl
   simp only[Qu,iR] at h
   obtain⟨xs,h1,rfl,rfl⟩:=h
   refine⟨hl,xs,?_,rfl⟩
   rw[List.mapM_map]
   exact h1
  ·cases h
 ·rename_i n e hu
  simp only[iE] at hp
  subst hp
  simp only[cB,DataW.trod,hu] at h
  split at h
  ·rename_i hl
   simp only[Qu,iR] at h
   obtain⟨xs,h1,rfl,rfl⟩:=h
   refine⟨hl,xs,?_,rfl⟩
   rw[List.mapM_map]
   exact h1
  ·cases h
 ·cases hp
def zf (enc:TypeId×Value->H) (P:Program) (w:World) (fuel:Nat) (u:TypeId) (c:Value) (d:DataW H):Prop:=∃f p,f<=fuel/\cB enc P w f u [c]=some (d,p)/\nQ P u=true
theorem FH {fuel:Nat} {t:TypeId} {cs:List Value} {x:DataW H×List MemPlace} (hl:nQ P t=true) (h:cB enc P w fuel t cs=some x):∃c,cs=[c]:=by
 cases fuel with
 |zero=>simp[cB,DataW.trod] at h
 |succ f=>
  unfold nQ at hl
  split at hl
  all_goals (rename_i hu;simp only[cB,DataW.trod,hu] at h;split at h<;>first|exact⟨_,rfl⟩|simp_all)
theorem Pk (hb:Bulk H bk bs):∀(k fuel:Nat) (t:TypeId) (cs:List Value) (d:DataW H) (ps:List MemPlace) (ts:List TypeId),nR P k t=some ts->cB enc P w fuel t cs=some (d,ps)->
 ∃ds,gK (zf enc P w fuel) ts cs ds/\bs ds<=bk d:=by
 intro k
 induction k with
 |zero=>intro fuel t cs d ps ts h;simp[nR] at h
 |succ k ih=>
  intro fuel t cs d ps ts h ht
  simp only[nR] at h
  split at h
  ·rename_i pl hp
   split at h
   ·rename_i hcon
    cases fuel with
    |zero=>simp[cB,DataW.trod] at ht
    |succ fuel=>
     obtain⟨hl,xs,hx,rfl⟩:=Pj hp ht
     simp only[Qu] at h
     obtain⟨nS,Pm,rfl⟩:=h
     have key:∀(pl:List (Nat×TypeId)) (off:Nat) (xs:List (DataW H×List MemPlace)) (nS:List (List TypeId)),qG P pl off cs.length=true->
      pl.mapM (fun p=>cB enc P w fuel p.2 ((cs.drop p.1).take (P.cellsOf p.2)))=some xs->
      (pl.mapM fun p=>match nR P k p.2 with
        |some l=>if l.length=P.cellsOf p.2 then some l else none
        |none=>none)=some nS->∃ds,gK (zf enc P w (fuel+1)) nS.flatten (cs.drop off) ds/\bs ds<=bs (xs.map (·.1)):=by
      intro pl
      induction pl with
      |nil=>
       intro off xs nS hc h1 h2
       simp only[List.mapM_nil,Option.pure_def,iE] at h1 h2
       subst h1;subst h2
       simp only[qG,beq_iff_eq] at hc
       rw[hc,List.drop_length]
       exact⟨[],trivial,Qt _⟩
      |cons p pl Pn=>
       intro off xs nS hc h1 h2
       obtain⟨o,u⟩:=p
       simp only[qG,iP,beq_iff_eq] at hc
       obtain⟨rfl,hc⟩:=hc
       simp only[QH,Option.bind_eq_bind,mF,Option.pure_def,iE] at h1 h2
       obtain⟨⟨d1,p1⟩,g1,xs',g2,rfl⟩:=h1
       obtain⟨l1,g3,Qr,g4,rfl⟩:=h2
       split at g3
       ·rename_i l0 hl0
        split at g3
        ·cases g3
         obtain⟨ds1,a1,a2⟩:=ih _ _ _ _ _ _ hl0 g1
         obtain⟨Po,a3,a4⟩:=Pn _ _ _ hc g2 g4
         refine⟨ds1++Po,?_,?_⟩
         ·rw[List.flatten_cons]
          have e:cs.drop o=(cs.drop o).take (P.cellsOf u)++cs.drop (o+P.cellsOf u):=by
           rw[<-List.drop_drop,Rt]
          rw[e]
          exact gK.append (a1.mono fun _ _ _ ⟨f,q,h1,h2⟩=>⟨f,q,Nat.le_succ_of_le h1,h2⟩) a3
         ·rw[hb.append,QA,hb.cons];show _<=bk d1+_;omega
        ·cases g3
       ·cases g3
     have:=key pl 0 xs nS (by rw[hl];exact hcon) hx Pm
     obtain⟨ds,h1,h2⟩:=this
     exact⟨ds,by simpa using h1,Qw h2 (hb.agg _)⟩
   ·cases h
  ·split at h
   ·rename_i hlf
    simp only[iE] at h
    subst h
    obtain⟨c,rfl⟩:=FH hlf.1 ht
    refine⟨[d],⟨⟨fuel,ps,Qt _,ht,hlf.1⟩,trivial⟩,?_⟩
    rw[hb.cons,hb.nil];omega
   ·cases h
def fD (K:aA) (T:Nat->Nat) (w:World) (vs:List V) (cs:List Value):Prop:=vs.length=cs.length/\∀j,j<vs.length->Rel K T w (vs.getD j undefV) (cs.getD j undef)
theorem fD.cons {K:aA} {T:Nat->Nat} {v:V} {c:Value} {vs:List V} {cs:List Value} (h:Rel K T w v c) (hs:fD K T w vs cs):fD K T w (v::vs) (c::cs):=by
 refine⟨by simp[hs.1],fun j hj=>?_⟩
 cases j with
 |zero=>exact h
 |succ j=>simpa using hs.2 j (by simpa using hj)
variable (R:Reg)
def tyOK (P:Program) (t:TypeId):Ty->Bool
 |.int k=>match P.underlying t with
  |some (.int k')=>decide (k'=k)
  |_=>false
 |.bool=>match P.underlying t with
  |some .bool=>true
  |_=>false
 |.str=>match P.underlying t with
  |some .string=>true
  |_=>false
 |.slice τ=>match P.underlying t with
  |some (.slice e)=>decide (R.ty e=some τ)&& decide (0<P.cellsOf e)
  |_=>false
 |.st n=>match nR P 10 t with
  |some ts=>decide (ts.map R.ty=(R.lf n).map some)&& (qF P t).isSome
  |none=>false
def allI (w:World) (b o:Nat):Prop:=∃v,w.cell? (at_ b o)=some v
abbrev KA (w:World):aA:=aA.lend (allI w) (fun b=>∃es aD,w.heap[b]? =some (.map es aD))
theorem zh {α β:Type} {f:α->Option β}:∀{l:List α} {r:List β},l.mapM f=some r->r.length=l.length/\∀(i:Nat) (hi:i<l.length) (hr:i<r.length),f l[i]=some r[i]:=by
 intro l
 induction l with
 |nil=>intro r h;simp at h;subst h;exact⟨rfl,fun i hi=>absurd hi (Qx i)⟩
 |cons a l ih=>
  intro r h
  simp only[QH,Option.bind_eq_bind,mF,Option.pure_def,iE] at h
  obtain⟨y,h1,ys,h2,rfl⟩:=h
  obtain⟨h3,h4⟩:=ih h2
  refine⟨by simp[h3],fun i hi hr=>?_⟩
  cases i with
  |zero=>exact h1
  |succ i=>exact h4 i (by simpa using hi) (by simpa using hr)
theorem FJ {base:Nat} {a:Addr} {n:Nat} {cs:List Value} (h:w.cells? base a n=some cs):cs.length=n/\∀j,j<n->w.cell? (a.add j)=some (cs.getD j undef):=by
 unfold World.cells? at h
 split at h
 ·obtain⟨h1,h2⟩:=zh h
  rw[RL] at h1
  refine⟨h1,fun j hj=>?_⟩
  have:=h2 j (by simpa using hj) (by omega)
  simp only[RB] at this
  rw[this,Q0,QT (by omega)]
  rfl
 ·cases h
theorem plain_of_cell {a:Addr} {v:Value} (h:w.cell? a=some v):a=at_ a.block a.off:=by
 unfold World.cell? at h
 obtain⟨b,o,s⟩:=a
 cases s with
 |none=>rfl
 |some s=>dsimp only at h;split at h<;>simp at h
theorem FK (hb:Bulk H bk bs) (hR:RegOK R) {T:Nat->Nat} {Q:TypeId->Value->DataW H->Prop} (hq:∀u c d τ,Q u c d->R.ty u=some τ->dO τ=true->∃x:Den R.T τ,Rel (KA w) T w (encD R τ x) c/\vsr (encD R τ x)<=bk d):
 ∀(l:List Ty) (ts:List TypeId) (cs:List Value) (ds:List (DataW H)),l.all dO=true->ts.map R.ty=l.map some->gK Q ts cs ds->∃p:PayT R.T l,fD (KA w) T w (encs R l p) cs/\vsrL (encs R l p)<=bs ds
 | [],ts,cs,ds,_,hm,h=>by
   have:ts=[]:=by simpa using hm
   subst this
   cases cs with
   |nil=>cases ds with
    |nil=>exact⟨(),⟨rfl,fun j hj=>absurd hj (Qx j)⟩,by rw[hb.nil];exact Qt _⟩
    |cons=>exact h.elim
   |cons=>exact h.elim
 | [τ],ts,cs,ds,hl,hm,h=>by
   cases ts with
   |nil=>simp at hm
   |cons u ts=>
    simp only[QA,List.map_nil,Rb,List.map_eq_nil_iff] at hm
    obtain⟨hu,rfl⟩:=hm
    cases cs with
    |nil=>exact h.elim
    |cons c cs=>cases ds with
     |nil=>exact h.elim
     |cons d ds=>
      obtain⟨h1,h2⟩:=h
      cases cs with
      |cons=>exact h2.elim
      |nil=>cases ds with
       |cons=>exact h2.elim
       |nil=>
        obtain⟨x,h3,h4⟩:=hq u c d τ h1 hu (by simpa using hl)
        refine⟨x,fD.cons h3 ⟨rfl,fun j hj=>absurd hj (Qx j)⟩,?_⟩
        rw[hb.cons,hb.nil]
        show vsr _+0<=_
        omega
 |τ::τ'::l,ts,cs,ds,hl,hm,h=>by
  cases ts with
  |nil=>simp at hm
  |cons u ts=>
   rw[QA,QA] at hm
   injection hm with hu hm
   cases cs with
   |nil=>exact h.elim
   |cons c cs=>cases ds with
    |nil=>exact h.elim
    |cons d ds=>
     obtain⟨h1,h2⟩:=h
     rw[List.all_cons,iP] at hl
     obtain⟨x,h3,h4⟩:=hq u c d τ h1 hu hl.1
     obtain⟨p,h5,h6⟩:=FK hb hR hq (τ'::l) ts cs ds hl.2 hm h2
     refine⟨(x,p),fD.cons h3 h5,?_⟩
     rw[hb.cons]
     show vsr (encD R τ x)+vsrL (encs R (τ'::l) p)<=_
     omega
theorem Pp (τ:Ty) (hl:dO τ=true) (x:Den R.T τ):(encD R τ x).cells=[encD R τ x]:=by
 cases τ with
 |st n=>simp[dO] at hl
 |_=>rfl
theorem Pt (hb:Bulk H bk bs) (hR:RegOK R) {T:Nat->Nat} (hty:∀t τ,R.ty t=some τ->tyOK R P t τ=true):∀(fuel:Nat) (t:TypeId) (cs:List Value) (d:DataW H) (ps:List MemPlace) (τ:Ty),R.ty t=some τ->cB enc P w fuel t cs=some (d,ps)->
 ∃x:Den R.T τ,fD (KA w) T w (encD R τ x).cells cs/\vsr (encD R τ x)<=bk d:=by
 intro fuel
 induction fuel using Nat.strongRecOn with
 |_ fuel ih=>
  have leaf:∀f,f<=fuel->∀u c d p τ,dO τ=true->R.ty u=some τ->cB enc P w f u [c]=some (d,p)->∃x:Den R.T τ,Rel (KA w) T w (encD R τ x) c/\vsr (encD R τ x)<=bk d:=by
   intro f hf u c d p τ hl hu h
   cases f with
   |zero=>simp[cB,DataW.trod] at h
   |succ f=>
    have ho:=hty u τ hu
    cases τ with
    |st n=>simp[dO] at hl
    |int k=>
     simp only[tyOK] at ho
     split at ho
     ·rename_i k' hk
      have:=of_decide_eq_true ho
      subst this
      cases c with
      |int k2 n=>
       simp only[cB,DataW.trod,hk] at h
       split at h
       ·rename_i hkk
        obtain⟨rfl,hwf⟩:=hkk
        simp only[iE,iR] at h
        obtain⟨rfl,rfl⟩:=h
        exact⟨(n:Int),.int _ _,by show 1+badI _ _<=_;rw[Ph hwf];exact hb.one _⟩
       ·cases h
      |_=>simp only[cB,DataW.trod,hk] at h;cases h
     ·cases ho
    |bool=>
     simp only[tyOK] at ho
     split at ho
     ·rename_i hk
      cases c with
      |bool b=>exact⟨(b:Bool),.bool _,hb.one _⟩
      |_=>simp only[cB,DataW.trod,hk] at h;cases h
     ·cases ho
    |str=>
     simp only[tyOK] at ho
     split at ho
     ·rename_i hk
      cases c with
      |string b=>
       simp only[cB,DataW.trod,hk] at h
       split at h
       ·simp only[iE,iR] at h
        obtain⟨rfl,rfl⟩:=h
        exact⟨b.data.toList,.str _ _ rfl,hb.str _⟩
       ·cases h
      |_=>simp only[cB,DataW.trod,hk] at h;cases h
     ·cases ho
    |slice τ=>
     simp only[tyOK] at ho
     split at ho
     ·rename_i e hk
      rw[iP] at ho
      have he:=of_decide_eq_true ho.1
      have hpos:=of_decide_eq_true ho.2
      cases c with
      |slice a len cap=>
       cases a with
       |none=>
        cases len with
        |succ n=>simp only[cB,DataW.trod,hk] at h;cases h
        |zero=>cases cap with
         |succ n=>simp only[cB,DataW.trod,hk] at h;cases h
         |zero=>exact⟨([]:List (Den R.T τ)),.aN .sh none (fun _=>rfl) trivial,hb.one _⟩
       |some a=>
        simp only[cB,DataW.trod,hk] at h
        split at h
        ·rename_i hc
         obtain⟨_,hlc,_⟩:=hc
         simp only[mF,if_true,Qu,iR] at h
         obtain⟨elems,h1,rest,h2,rfl,rfl⟩:=h
         obtain⟨e1,e2⟩:=zh h1
         obtain⟨r1,r2⟩:=zh h2
         rw[RL] at e1 r1
         have hplain:0<cap->a=at_ a.block a.off:=fun hcap=>by
          have hread:∃i cs x,w.cells? 0 (a.add (i*P.cellsOf e)) (P.cellsOf e)=some cs/\cB enc P w f e cs=some x/\i=0:=by
           by_cases hl0:0<len
           ·have:=e2 0 (by simpa using hl0) (by omega)
            simp only[RB,mF] at this
            obtain⟨cs,g1,g2⟩:=this
            exact⟨0,cs,_,g1,g2,rfl⟩
           ·have:=r2 0 (by simp;omega) (by omega)
            simp only[RB,mF] at this
            obtain⟨cs,g1,g2⟩:=this
            exact⟨len+0,cs,_,g1,g2,by omega⟩
          obtain⟨i,cs,_,g1,_,rfl⟩:=hread
          have:=(FJ g1).2 0 hpos
          have ha:(a.add (0*P.cellsOf e)).add 0=a:=by simp[Addr.add]
          rw[ha] at this
          exact plain_of_cell this
         have hel:∀i,∃x:Den R.T τ,∃nT:List Value,∀hi:i<elems.length,(∀j,j<P.cellsOf e->w.cell? ((a.add (i*P.cellsOf e)).add j)=some (nT.getD j undef))/\nT.length=P.cellsOf e/\
          fD (KA w) T w (encD R τ x).cells nT/\vsr (encD R τ x)<=bk elems[i].1:=fun i=>by
          by_cases hi:i<elems.length
          ·have:=e2 i (by simpa using (by omega:i<len)) hi
           simp only[RB,mF] at this
           obtain⟨nT,g1,g2⟩:=this
           obtain⟨c1,c2⟩:=FJ g1
           obtain⟨x,x1,x2⟩:=ih f (by omega) e nT elems[i].1 elems[i].2 τ he g2
           exact⟨x,nT,fun _=>⟨c2,c1,x1,x2⟩⟩
          ·exact⟨dfl R τ,[],fun h=>absurd h hi⟩
         let xs:List (Den R.T τ):=(List.range elems.length).map fun i=>(hel i).choose
         have hxs:∀i (hi:i<xs.length) (hi':i<elems.length),(∀j,j<P.cellsOf e->w.cell? ((a.add (i*P.cellsOf e)).add j)=some ((hel i).choose_spec.choose.getD j undef))/\(hel i).choose_spec.choose.length=P.cellsOf e/\
          fD (KA w) T w (encD R τ xs[i]).cells (hel i).choose_spec.choose/\vsr (encD R τ xs[i])<=bk elems[i].1:=fun i hi hi'=>by
          have:=(hel i).choose_spec.choose_spec hi'
          have e:xs[i]=(hel i).choose:=by simp[xs]
          rw[e];exact this
         have hxl:xs.length=len:=by simp[xs,e1]
         refine⟨(xs:List (Den R.T τ)),?_,?_⟩
         ·show Rel _ _ _ (.lst .sh (xs.map (encD R τ))) (.slice (some a) len cap)
          by_cases hcap:0<cap
          ·obtain⟨b,o,s⟩:=a
           have hs:s=none:=by
            have:=hplain hcap
            simp only[at_,Addr.mk.injEq] at this
            exact this.2.2
           subst hs
           have key:Rel (KA w) T w (.lst .sh (xs.map (encD R τ))) (.slice (some (at_ b o)) (xs.map (encD R τ)).length cap):=by
            refine .lst .sh _ b o (P.cellsOf e) cap (fun i j=>if hi:i<elems.length then (hel i).choose_spec.choose.getD j undef else undef) (by rw[Qy,hxl];exact hlc) (fun i hi=>?_) (fun i j hi hj=>?_) (fun i j hi hj=>?_) trivial
            all_goals
             rw[Qy] at hi
             have hi':i<elems.length:=by omega
             obtain⟨y1,y2,y3,y4⟩:=hxs i hi hi'
             have hg:(xs.map (encD R τ)).getD i undefV=encD R τ xs[i]:=by simp[List.getD,hi]
            ·rw[hg];exact y3.1.trans y2
            ·rw[dif_pos hi']
             have hadd:at_ b (o+i*P.cellsOf e+j)=((⟨b,o,none⟩:Addr).add (i*P.cellsOf e)).add j:=by
              rw[show (⟨b,o,none⟩:Addr)=at_ b o from rfl,addr_add,addr_add]
             have this:=(congrArg w.cell? hadd).trans (y1 j hj)
             exact⟨this,_,this⟩
            ·rw[hg,dif_pos hi']
             exact y3.2 j (by rw[y3.1,y2];exact hj)
           rw[Qy,hxl] at key
           exact key
          ·have h0:len=0:=by omega
           have h0':cap=0:=by omega
           subst h0;subst h0'
           have:xs=[]:=Rf hxl
           rw[this]
           exact .aN .sh (some a) (fun h=>by cases h) trivial
         ·show vsrL (xs.map (encD R τ))+1<=_
          refine Qw (Nat.succ_le_succ ?_) (hb.sl _ _)
          have Pv:∀(l:List (Den R.T τ)) (m:List (DataW H×List MemPlace)),l.length=m.length->(∀i (hi:i<l.length) (hi':i<m.length),vsr (encD R τ l[i])<=bk m[i].1)->vsrL (l.map (encD R τ))<=bs (m.map (·.1)):=by
           intro l
           induction l with
           |nil=>intro m _ _;exact Rj _
           |cons x l ihl=>
            intro m hm hle
            cases m with
            |nil=>simp at hm
            |cons y m=>
             rw[QA,QA,hb.cons]
             have h0:=hle 0 (by simp) (by simp)
             have h1:=ihl m (by simpa using hm) (fun i hi hi'=>hle (i+1) (by simpa using hi) (by simpa using hi'))
             simp only[List.getElem_cons_zero] at h0
             show vsr _+vsrL _<=_
             omega
          exact Pv xs elems (by rw[hxl,e1]) fun i hi hi'=>(hxs i hi hi').2.2.2
        ·cases h
      |_=>simp only[cB,DataW.trod,hk] at h;cases h
     ·cases ho
  have ho:=hty
  intro t cs d ps τ ht h
  cases τ with
  |st n=>
   have ho:=hty t _ ht
   simp only[tyOK] at ho
   split at ho
   ·rename_i ts hts
    rw[iP] at ho
    have hm:=of_decide_eq_true ho.1
    obtain⟨ds,h1,h2⟩:=Pk hb _ _ _ _ _ _ _ hts h
    obtain⟨p,h3,h4⟩:=FK R hb hR (Q:=zf enc P w fuel) (T:=T) (fun u c d τ hq hu hl=>by
     obtain⟨f,q,hf,hq,_⟩:=hq
     exact leaf f hf u c d q τ hl hu hq) (R.lf n) ts cs ds (hR.leaf n) hm h1
    refine⟨R.to n p,?_,?_⟩
    ·show fD _ _ _ (R.enc n (R.to n p)).cells cs
     rw[hR.enc,hR.of_to];exact h3
    ·show vsr (R.enc n (R.to n p))<=_
     rw[hR.enc,hR.of_to]
     exact Qw h4 h2
   ·cases ho
  |_=>
   have hl:nQ P t=true:=by
    have ho:=hty t _ ht
    simp only[tyOK] at ho
    split at ho
    ·rename_i hu;simp[nQ,hu]
    ·cases ho
   obtain⟨c,rfl⟩:=FH hl h
   obtain⟨x,h1,h2⟩:=leaf fuel (Qt _) t c d ps _ rfl ht h
   refine⟨x,?_,h2⟩
   rw[Pp R _ rfl]
   exact fD.cons h1 ⟨rfl,fun j hj=>absurd hj (Qx j)⟩
end
end Aq
end
section
namespace Aq
open Go Go.RowKit Go.ChangeShapes Go.WideShapes
section
variable {P:Program} {w:World} {H:Type} {enc:TypeId×Value->H} {bk:DataW H->Nat} {bs:List (DataW H)->Nat} (R:Reg)
theorem FL (hb:Bulk H bk bs) (hR:RegOK R) {T:Nat->Nat} (hty:∀t τ,R.ty t=some τ->tyOK R P t τ=true) {t:TypeId} {v:Value} {d:DataW H} {ps:List MemPlace} {τ:Ty} (ht:R.ty t=some τ)
 {r:Reach} {base:Nat} (hok:Value.okWide P w r base t v) (h:DataW.Trod enc P w 0 (fun _=>true) true t v d ps):∃x:Den R.T τ,Rel (KA w) T w (encD R τ x) v/\vsr (encD R τ x)<=bk d:=by
 obtain⟨fuel,h⟩:=h
 obtain⟨x,h1,h2⟩:=Pt R hb hR (T:=T) hty fuel t _ d ps τ ht h
 refine⟨x,?_,h2⟩
 have ho:=hty t τ ht
 have one:∀c,v=c->c.cells= #[c]->(encD R τ x).cells=[encD R τ x]->Rel (KA w) T w (encD R τ x) v:=by
  intro c hv hc he
  subst hv
  rw[hc,he] at h1
  exact h1.2 0 (by simp)
 cases τ with
 |int k=>
  simp only[tyOK] at ho
  split at ho
  ·rename_i k' hu
   obtain⟨n,rfl⟩:=okWide_int hu hok
   exact one _ rfl rfl rfl
  ·cases ho
 |bool=>
  simp only[tyOK] at ho
  split at ho
  ·rename_i hu
   obtain⟨n,rfl⟩:=okWide_bool hu hok
   exact one _ rfl rfl rfl
  ·cases ho
 |str=>
  simp only[tyOK] at ho
  split at ho
  ·rename_i hu
   obtain⟨n,rfl⟩:=okWide_string hu hok
   exact one _ rfl rfl rfl
  ·cases ho
 |slice τ=>
  simp only[tyOK] at ho
  split at ho
  ·rename_i e hu
   obtain⟨a,l,c,rfl⟩:=okWide_slice hu hok
   exact one _ rfl rfl rfl
  ·cases ho
 |st n=>
  simp only[tyOK] at ho
  split at ho
  ·rename_i ts hts
   rw[iP] at ho
   have hagg:∃cs,v= .agg cs:=by
    have hs:=ho.2
    unfold qF at hs
    unfold Value.okWide at hok
    split at hs
    ·rename_i fs hu
     rw[hu] at hok
     exact⟨_,hok.choose_spec.1⟩
    ·rename_i m e hu
     rw[hu] at hok
     exact⟨_,hok.choose_spec.1⟩
    ·cases hs
   obtain⟨cs,rfl⟩:=hagg
   have he:encD R (.st n) x= .agg (encs R (R.lf n) (R.of n x)):=hR.enc n x
   rw[he] at h1⊢
   obtain⟨h3,h4⟩:=h1
   have h3':(encs R (R.lf n) (R.of n x)).length=cs.toList.length:=h3
   refine .agg _ cs (by simpa using h3') (fun i hi=>?_)
   have h5:Rel (KA w) T w ((encs R (R.lf n) (R.of n x)).getD i undefV) (cs.toList.getD i undef):=h4 i hi
   simpa [Q0,RH] using h5
  ·cases ho
theorem FP (hb:Bulk H bk bs) (hR:RegOK R) {T:Nat->Nat} (hty:∀t τ,R.ty t=some τ->tyOK R P t τ=true) {r:Reach} {base:Nat}:∀(l:List Ty) (ts:List TypeId) (vs:List Value) (ds:List (DataW H)) (ps:List MemPlace),ts.map R.ty=l.map some->
 (∀(j:Nat) t v,ts[j]? =some t->vs[j]? =some v->Value.okWide P w r base t v)->DataW.TrodAll enc P w 0 (fun _=>true) true ts vs ds ps->
 ∃p:PayL R.T (l.map Sk.d),fD (KA w) T w (encSL R (l.map Sk.d) p) vs/\vsrL (encSL R (l.map Sk.d) p)<=bs ds
 | [],ts,vs,ds,ps,hm,hok,h=>by
   have:ts=[]:=by simpa using hm
   subst this
   obtain⟨rfl,rfl,rfl⟩:=trodAll_nil h
   exact⟨(),⟨rfl,fun j hj=>absurd hj (Qx j)⟩,by rw[hb.nil];exact Qt _⟩
 | [τ],ts,vs,ds,ps,hm,hok,h=>by
   cases ts with
   |nil=>simp at hm
   |cons u ts=>
    simp only[QA,List.map_nil,Rb,List.map_eq_nil_iff] at hm
    obtain⟨hu,rfl⟩:=hm
    obtain⟨v0,vs0,d0,ds0,p0,q0,rfl,rfl,rfl,h0,r0⟩:=trodAll_cons h
    obtain⟨rfl,rfl,rfl⟩:=trodAll_nil r0
    obtain⟨x,h3,h4⟩:=FL R hb hR (T:=T) hty hu (hok 0 u v0 rfl rfl) h0
    refine⟨x,fD.cons h3 ⟨rfl,fun j hj=>absurd hj (Qx j)⟩,?_⟩
    rw[hb.cons,hb.nil]
    show vsr (encD R τ x)+0<=_
    omega
 |τ::τ'::l,ts,vs,ds,ps,hm,hok,h=>by
  cases ts with
  |nil=>simp at hm
  |cons u ts=>
   rw[QA,QA] at hm
   injection hm with hu hm
   obtain⟨v0,vs0,d0,ds0,p0,q0,rfl,rfl,rfl,h0,r0⟩:=trodAll_cons h
   obtain⟨x,h3,h4⟩:=FL R hb hR (T:=T) hty hu (hok 0 u v0 rfl rfl) h0
   obtain⟨p,h5,h6⟩:=FP hb hR hty (τ'::l) ts vs0 ds0 q0 hm (fun j t v h1 h2=>hok (j+1) t v h1 h2) r0
   refine⟨(x,p),fD.cons h3 h5,?_⟩
   rw[hb.cons]
   show vsr (encD R τ x)+vsrL (encSL R ((τ'::l).map Sk.d) p)<=_
   omega
theorem Pw {K:aA} {T:Nat->Nat} {vs:List V} {args:Array Value} (h:fD K T w vs args.toList):RelA K T w vs args:=by
 refine⟨by simpa using h.1,fun i hi=>?_⟩
 have:=h.2 i hi
 simpa [Q0,RH] using this
end
section
variable {P:Program} {H:Type} {enc:TypeId×Value->H}
theorem FQ {Tp:TypeId->Prop} (K:Kids P Tp) (hsz:∀{t e:TypeId},Tp t->P.underlying t=some (.slice e)->0<P.cellsOf e) {W W':World} (hbel:Below W.heap.size W W') {sp:Nat->Bool}:
 ∀{ts:List TypeId} {vs:List Value} {ds:List (DataW H)} {ps:List MemPlace},(∀t∈ts,Tp t)->DataW.TrodAll enc P W 0 (fun _=>true) true ts vs ds ps->(∀p∈ps,p.block<W.heap.size)->(∀p∈ps,sp p.block=true)->DataW.TrodAll enc P W' 0 sp true ts vs ds ps
 | [],[],[],_,_,h,_,_=>h
 |_::_,_::_,_::_,_,hT,⟨p,q,⟨n,h1⟩,h2,e⟩,hlt,hs=>by
  subst e
  refine⟨p,q,⟨n,?_⟩,FQ K hsz hbel (fun t ht=>hT t (QB _ ht)) h2 (fun x hx=>hlt x (RP _ hx)) (fun x hx=>hs x (RP _ hx)),rfl⟩
  exact DataW.trod_stays K hsz (fun h=>by cases h) (hT _ (by simp)) h1 (fun x hx=>hbel.same (hlt x (RI _ hx))) (fun x hx=>hs x (RI _ hx))
 | [],_::_,_,_,_,h,_,_=>h.elim
 | [],[],_::_,_,_,h,_,_=>h.elim
 |_::_,[],_,_,_,h,_,_=>h.elim
 |_::_,_::_,[],_,_,h,_,_=>h.elim
theorem Px {f:Func} {s:ChangeSpec} {apart fresh handsOn again:Bool} {W W':World} {args:Array Value} {v:Value} {ds gs:List (DataW H)} {before pa pv:List MemPlace}
 (hW:DataW.Whole enc P f.params.toList s.vars apart W args.toList ds gs before)
 (hres:∀(b:Nat) (sp:Nat->Bool) (hd:Bool),DataW.TrodAll enc P W' b sp hd f.resultTypes.toList (v.resultList f.resultTypes.size) (s.fn H (ds++gs)).results [])
 (hargs:∀sp:Nat->Bool,(∀p∈before,sp p.block=true)->DataW.TrodAll enc P W' 0 sp true f.params.toList args.toList (s.fn H (ds++gs)).args pa)
 (hvars:∀sp:Nat->Bool,(∀p∈before,sp p.block=true)->DataW.TrodVars enc P W' sp s.vars (s.fn H (ds++gs)).vars pv)
 (hps:before=pa++pv) (hbel:Below W.heap.size W W')
 (hok:∀(j:Nat) (t:TypeId) (r:Value),f.resultTypes[j]? =some t->(v.resultList f.resultTypes.size)[j]? =some r->Value.okWide P W' .any 0 t r):
 s.post enc P f apart fresh handsOn again W args v W':=by
 have hlt:∀p∈before,p.block<W.heap.size:=hW.lt
 have hold:∀p∈before,(fun b=>decide (b<W.heap.size)) p.block=true:=fun p hp=>by simpa using hlt p hp
 refine⟨ds,gs,before,[],pa,pv,hW,hres _ _ _,hargs _ hold,hvars _ hold,World.keptBut_mono (fun p hp=>⟨hp,?_⟩) (hbel.frame (· ∈before)),fun _=>?_⟩
 ·rw[hps,List.mem_append] at hp
  exact Or.inr hp
 ·obtain⟨_,_,_,_,_,hz,hn⟩:=hW
  refine⟨hok,_,_,([]++pa)++pv,⟨[]++pa,pv,trodAll_append (hargs _ (fun _ _=>rfl)) (hres _ _ _),hvars _ (fun _ _=>rfl),rfl,?_,?_⟩,?_⟩
  ·intro b off hp
   have hp':MemPlace.cell b off∈before:=by rw[hps];simpa using hp
   rw[hbel.frozen (p:=⟨b,off,none⟩) (hlt _ hp')]
   exact hz b off hp'
  ·intro ha
   have:=hn ha
   rw[hps] at this
   simpa using this
  ·intro p hp _
   rw[hps]
   simpa using hp
end
end Aq
end
section
namespace Aq
open Go Go.RowKit Go.ChangeShapes Go.WideShapes
section
variable {P:Program} {w:World} (R:Reg)
def zi:(τ:Ty)->Den R.T τ->Prop
 |.int k,x=>k.has (show Int from x)
 |_,_=>True
def rngL:(l:List Ty)->PayL R.T (l.map Sk.d)->Prop
 | [],_=>True
 | [τ],x=>zi R τ x
 |τ::τ'::l,p=>zi R τ p.1/\rngL (τ'::l) p.2
theorem FT (hty:∀t τ,R.ty t=some τ->tyOK R P t τ=true) {T:Nat->Nat} {t:TypeId} {v:Value} {τ:Ty} (ht:R.ty t=some τ) {r:Reach} {base:Nat} (hok:Value.okWide P w r base t v) {x:Den R.T τ} (h:Rel (KA w) T w (encD R τ x) v):zi R τ x:=by
 have ho:=hty t τ ht
 cases τ with
 |int k=>
  simp only[tyOK] at ho
  split at ho
  ·rename_i k' hu
   have hk:k'=k:=of_decide_eq_true ho
   subst hk
   have h':Rel (KA w) T w (.int k' x) v:=h
   cases h'
   unfold Value.okWide at hok
   rw[hu] at hok
   have h2:Cell.ok P w r base t (.int k' x):=by
    unfold Cell.okWide at hok
    rw[hu] at hok
    exact hok
   unfold Cell.ok at h2
   rw[hu] at h2
   exact h2.2
  ·cases ho
 |bool=>trivial
 |str=>trivial
 |slice τ=>trivial
 |st n=>trivial
theorem FU (hty:∀t τ,R.ty t=some τ->tyOK R P t τ=true) {T:Nat->Nat} {r:Reach} {base:Nat}:∀(l:List Ty) (ts:List TypeId) (vs:List Value) (p:PayL R.T (l.map Sk.d)),ts.map R.ty=l.map some->
 (∀(j:Nat) t v,ts[j]? =some t->vs[j]? =some v->Value.okWide P w r base t v)->fD (KA w) T w (encSL R (l.map Sk.d) p) vs->rngL R l p
 | [],ts,vs,p,hm,hok,h=>trivial
 | [τ],ts,vs,x,hm,hok,h=>by
   obtain⟨h1,h2⟩:=h
   cases ts with
   |nil=>simp at hm
   |cons u ts=>
    simp only[QA,List.map_nil,Rb,List.map_eq_nil_iff] at hm
    obtain⟨hu,rfl⟩:=hm
    cases vs with
    |nil=>cases h1
    |cons v vs=>exact FT R hty hu (hok 0 u v rfl rfl) (h2 0 (Nat.zero_lt_one))
 |τ::τ'::l,ts,vs,p,hm,hok,h=>by
  obtain⟨h1,h2⟩:=h
  cases ts with
  |nil=>simp at hm
  |cons u ts=>
   rw[QA,QA] at hm
   injection hm with hu hm
   cases vs with
   |nil=>cases h1
   |cons v vs=>
    refine⟨FT R hty hu (hok 0 u v rfl rfl) (h2 0 (Nat.zero_lt_succ _)),FU hty (T:=T) (τ'::l) ts vs p.2 hm (fun j t v h1 h2=>hok (j+1) t v h1 h2) ⟨?_,fun j hj=>?_⟩⟩
    ·exact Nat.succ.inj h1
    ·exact h2 (j+1) (Nat.succ_lt_succ hj)
end
theorem law_contract2 {E:Env} {R:Reg} {H:Type} {enc:TypeId×Value->H} {bk:DataW H->Nat} {bs:List (DataW H)->Nat} (hb:Bulk H bk bs) (hR:RegOK R) (hty:∀t τ,R.ty t=some τ->tyOK R E.P t τ=true)
 {Tp:TypeId->Prop} (K:Kids E.P Tp) (hsz:∀{t e:TypeId},Tp t->E.P.underlying t=some (.slice e)->0<E.P.cellsOf e) {f:FuncId} {fn:Func} {s:ChangeSpec} {apart fresh handsOn again:Bool} {W:World} {base:Nat} {args:Array Value} {ds gs:List (DataW H)} {before:List MemPlace}
 {l:List Ty} (hl:fn.params.toList.map R.ty=l.map some) (hT:∀t∈fn.params.toList,Tp t) (hvars:s.vars=[])
 (hspec:s.fn H ds={results:=[.lit (.bool true)],args:=ds})
 {tb:TypeId} (hres:fn.resultTypes= #[tb]) (zk:E.P.underlying tb=some .bool)
 (hval:∀(j:Nat) t v,fn.params[j]? =some t->args[j]? =some v->Value.okWide E.P W .any base t v)
 (hW:DataW.Whole enc E.P fn.params.toList s.vars apart W args.toList ds gs before)
 (Py:∀g cs,E.glob g=some cs->Rel (KA W) (fun _=>0) W (.cref cs 0) (.pointer (some (at_ g 0))))
 (Pz:∀p:PayL R.T (l.map Sk.d),vsrL (encSL R (l.map Sk.d) p)<=bs ds->rngL R l p->PureOK E f (encSL R (l.map Sk.d) p) (.bool true)):
 Calls E.P f args W fun e W'=>∃v,e= .returned v/\s.post enc E.P fn apart fresh handsOn again W args v W':=by
 have hW':=hW
 obtain⟨p,q,hA,hV,hpq,_,_⟩:=hW
 rw[hvars] at hV
 obtain⟨rfl,rfl⟩:=trodVars_none hV
 rw[QX] at hpq
 subst hpq
 obtain⟨x,h1,h2⟩:=FP R hb hR (T:=fun _=>0) hty (r:=.any) (base:=base) l fn.params.toList args.toList ds _ hl (fun j t v h1 h2=>hval j t v (by simpa using h1) (by simpa using h2)) hA
 obtain⟨_,hcall⟩:=Pz x h2 (FU R hty l fn.params.toList args.toList x hl (fun j t v h1 h2=>hval j t v (by simpa using h1) (by simpa using h2)) h1)
 have hc:=callsIn_wide.1 (hcall (allI W) _ W args ⟨fun b o h=>h,fun b h=>h,Py⟩ (Pw h1))
 refine hc.mono fun e W' he=>?_
 cases e with
 |returned c=>
  obtain⟨hbel,hrel⟩:=he
  cases hrel
  have hlt:∀p∈before,p.block<W.heap.size:=hW'.lt
  refine⟨_,rfl,Px (pa:=before) (pv:=[]) hW' (fun b sp hd=>?_) (fun sp hs=>?_) (fun sp hs=>?_) (by simp) hbel ?_⟩
  ·rw[QX,hspec,hres]
   exact trodAll_mk1 ⟨1,by simp[DataW.trod,zk,Value.cells]⟩
  ·rw[QX,hspec]
   exact FQ K hsz hbel hT hA hlt hs
  ·rw[QX,hspec,hvars];exact rfl
  ·exact ok_one hres rfl (by unfold Value.okWide;rw[zk];simp[Cell.okWide,Cell.ok,zk])
 |panicked ch=>exact he.elim
 |outgrown=>exact he.elim
end Aq
end
