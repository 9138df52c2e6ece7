import Derived.ChangeSame
import Derived.ChangeShapes
import Derived.ChangeStays
import Derived.RowKit
import Derived.Test.YthadiihdjhakdaaGreatF2913
import Derived.WideShapes
set_option linter.all false
section
namespace aY
open Go Go.RowKit
mutual
def mq:V->Nat
 |.str s=>s.length+1|.agg cs=>uw cs|.ay _ l=>uw l+1|_=>1
def uw:List V->Nat
 | []=>0|v::l=>mq v+uw l
end
def aay (k:IntKind)(n:Int):Nat:=if (Lit.int k n).wf=true then 0 else 2^64
theorem asj {k:IntKind}{n:Int}(h:(Lit.int k n).wf=true):aay k n=0:=if_pos h
mutual
def lV:V->Nat
 |.str s=>s.length+1|.agg cs=>sM cs|.ay _ l=>sM l+1|.int k n=>1+aay k n|_=>1
def sM:List V->Nat
 | []=>0|v::l=>lV v+sM l
end
mutual
theorem aif:∀v:V,mq v<=lV v
 |.str s=>by simp[mq,lV]|.agg cs=>by simp only[mq,lV];exact Ux cs|.ay _ l=>by simp only[mq,lV];exact Nat.add_le_add_right (Ux l) 1|.int k n=>by simp[mq,lV]|.bool _|.cB|.dF|.gL|.iD|.bq _|.aJ .. |.ref .. |.dJ .. |.aI .. |.fn .. |.eU .. |.iface .. |.raw _=>by simp[mq,lV]
theorem Ux:∀l:List V,uw l<=sM l
 | []=>RS _|v::l=>by simp only[uw,sM];exact Nat.add_le_add (aif v) (Ux l)
end
structure Bulk (H:Type)(bk:DataW H->Nat)(bs:List (DataW H)->Nat):Prop where
 one:∀d,1<=bk d
 str:∀s,s.length+1<=bk (.lit (.string s))
 agg:∀l,bs l<=bk (.agg l)
 sl:∀l r,bs l+1<=bk (.slice l r)
 nil:bs []=0
 cons:∀d l,bs (d::l)=bk d+bs l
section
variable {H:Type}{bk:DataW H->Nat}{bs:List (DataW H)->Nat}(hb:Bulk H bk bs)
include hb
theorem Bulk.append (a b:List (DataW H)):bs (a++b)=bs a+bs b:=by
 induction a with
 |nil=>simp[hb.nil]|cons v a ih=>simp only[List.cons_append,hb.cons,ih];omega
end
def vG {α β γ:Type}(Q:α->β->γ->Prop):List α->List β->List γ->Prop
 | [],[],[]=>True|t::ts,c::cs,d::ds=>Q t c d/\vG Q ts cs ds|_,_,_=>False
theorem vG.append {α β γ:Type}{Q:α->β->γ->Prop}:∀{a a':List α}{b b':List β}{c c':List γ},vG Q a b c->vG Q a' b' c'->vG Q (a++a') (b++b') (c++c')
 | [],_,[],_,[],_,_,h=>h|_::_,_,_::_,_,_::_,_,h,h'=>⟨h.1,h.2.append h'⟩| [],_,_::_,_,_,_,h,_=>h.elim| [],_,[],_,_::_,_,h,_=>h.elim|_::_,_,[],_,_,_,h,_=>h.elim|_::_,_,_::_,_,[],_,h,_=>h.elim
theorem vG.mono {α β γ:Type}{Q Q':α->β->γ->Prop}(hq:∀a b c,Q a b c->Q' a b c):∀{a:List α}{b:List β}{c:List γ},vG Q a b c->vG Q' a b c
 | [],[],[],_=>trivial|_::_,_::_,_::_,h=>⟨hq _ _ _ h.1,h.2.mono hq⟩| [],_::_,_,h=>h.elim| [],[],_::_,h=>h.elim|_::_,[],_,h=>h.elim|_::_,_::_,[],h=>h.elim
theorem vG.len {α β γ:Type}{Q:α->β->γ->Prop}:∀{a:List α}{b:List β}{c:List γ},vG Q a b c->a.length=b.length
 | [],[],[],_=>rfl|_::_,_::_,_::_,h=>by simp[h.2.len]| [],_::_,_,h=>h.elim| [],[],_::_,h=>h.elim|_::_,[],_,h=>h.elim|_::_,_::_,[],h=>h.elim
section
variable (P:Program)
def NS (t:TypeId):Option (List (Nat×TypeId)):=match P.underlying t with
 |some (.struct fs)=>some (fs.toList.map fun f=>(f.offset,f.type))
 |some (.array n e)=>some ((List.range n).map fun i=>(i*P.cellsOf e,e))
 |_=>none
def Jy (t:TypeId):Bool:=match P.underlying t with
 |some .bool=>true|some (.int _)=>true|some .string=>true|some (.slice _)=>true|_=>false
def NT:List (Nat×TypeId)->Nat->Nat->Bool
 | [],off,tot=>off==tot| (o,u)::l,off,tot=>o==off&& NT l (off+P.cellsOf u) tot
def Jz:Nat->TypeId->Option (List TypeId)
 |0,_=>none|k+1,t=>match NS P t with
  |some ps=>if NT P ps 0 (P.cellsOf t)=true then (ps.mapM fun (p:Nat×TypeId)=>match Jz k p.2 with
    |some l=>if l.length=P.cellsOf p.2 then some l else none|none=>none).map List.flatten else none
  |none=>if Jy P t=true/\P.cellsOf t=1 then some [t] else none
end
section
variable {P:Program}{w:World}{H:Type}{enc:TypeId×Value->H}{bk:DataW H->Nat}{bs:List (DataW H)->Nat}
abbrev mP (enc:TypeId×Value->H)(P:Program)(w:World)(f:Nat)(t:TypeId)(cs:List Value):Option (DataW H×List MemPlace):=DataW.trod enc P w 0 (fun _=>true) true f t cs
theorem asl {fuel:Nat}{t:TypeId}{cs:List Value}{d:DataW H}{ps:List MemPlace}{pl:List (Nat×TypeId)}(hp:NS P t=some pl)(h:mP enc P w (fuel+1) t cs=some (d,ps)):
 cs.length=P.cellsOf t/\∃xs,pl.mapM (fun p=>mP enc P w fuel p.2 ((cs.drop p.1).take (P.cellsOf p.2)))=some xs/\d= .agg (xs.map (·.1)):=by
 unfold NS at hp;split at hp
 ·rename_i fs hu
  simp only[iE] at hp;subst hp;simp only[mP,DataW.trod,hu] at h;split at h
  ·rename_i hl
   simp only[aZ,aP] at h;obtain⟨xs,h1,rfl,rfl⟩:=h;refine⟨hl,xs,?_,rfl⟩;rw[List.mapM_map];exact h1
  ·cases h
 ·rename_i n e hu
  simp only[iE] at hp;subst hp;simp only[mP,DataW.trod,hu] at h;split at h
  ·rename_i hl
   simp only[aZ,aP] at h;obtain⟨xs,h1,rfl,rfl⟩:=h;refine⟨hl,xs,?_,rfl⟩;rw[List.mapM_map];exact h1
  ·cases h
 ·cases hp
def aaz (enc:TypeId×Value->H)(P:Program)(w:World)(fuel:Nat)(u:TypeId)(c:Value)(d:DataW H):Prop:=∃f p,f<=fuel/\mP enc P w f u [c]=some (d,p)/\Jy P u=true
theorem aii {fuel:Nat}{t:TypeId}{cs:List Value}{x:DataW H×List MemPlace}(hl:Jy P t=true)(h:mP enc P w fuel t cs=some x):∃c,cs=[c]:=by
 cases fuel with
 |zero=>simp[mP,DataW.trod] at h|succ f=>unfold Jy at hl;split at hl;all_goals (rename_i hu;simp only[mP,DataW.trod,hu] at h;split at h<;>first|exact⟨_,rfl⟩|simp_all)
theorem asn (hb:Bulk H bk bs):∀(k fuel:Nat)(t:TypeId)(cs:List Value)(d:DataW H)(ps:List MemPlace)(ts:List TypeId),Jz P k t=some ts->mP enc P w fuel t cs=some (d,ps)->
 ∃ds,vG (aaz enc P w fuel) ts cs ds/\bs ds<=bk d:=by
 intro k;induction k with
 |zero=>intro fuel t cs d ps ts h;simp[Jz] at h|succ k ih=>
  intro fuel t cs d ps ts h ht;simp only[Jz] at h;split at h
  ·rename_i pl hp
   split at h
   ·rename_i hcon
    cases fuel with
    |zero=>simp[mP,DataW.trod] at ht|succ fuel=>
     obtain⟨hl,xs,hx,rfl⟩:=asl hp ht;simp only[aZ] at h;obtain⟨JA,aso,rfl⟩:=h;have key:∀(pl:List (Nat×TypeId))(off:Nat)(xs:List (DataW H×List MemPlace))(JA:List (List TypeId)),NT P pl off cs.length=true->
      pl.mapM (fun p=>mP enc P w fuel p.2 ((cs.drop p.1).take (P.cellsOf p.2)))=some xs->
      (pl.mapM fun p=>match Jz P k p.2 with
        |some l=>if l.length=P.cellsOf p.2 then some l else none|none=>none)=some JA->∃ds,vG (aaz enc P w (fuel+1)) JA.flatten (cs.drop off) ds/\bs ds<=bs (xs.map (·.1)):=by
      intro pl;induction pl with
      |nil=>intro off xs JA hc h1 h2;simp only[List.mapM_nil,Option.pure_def,iE] at h1 h2;subst h1;subst h2;simp only[NT,beq_iff_eq] at hc;rw[hc,List.drop_length];exact⟨[],trivial,RS _⟩|cons p pl asq=>
       intro off xs JA hc h1 h2;obtain⟨o,u⟩:=p;simp only[NT,iP,beq_iff_eq] at hc;obtain⟨rfl,hc⟩:=hc;simp only[jL,Option.bind_eq_bind,iR,Option.pure_def,iE] at h1 h2;obtain⟨⟨d1,p1⟩,g1,xs',g2,rfl⟩:=h1;obtain⟨l1,g3,aBu,g4,rfl⟩:=h2;split at g3
       ·rename_i l0 hl0
        split at g3
        ·cases g3
         obtain⟨ds1,a1,a2⟩:=ih _ _ _ _ _ _ hl0 g1;obtain⟨asr,a3,a4⟩:=asq _ _ _ hc g2 g4;refine⟨ds1++asr,?_,?_⟩
         ·rw[List.flatten_cons]
          have e:cs.drop o=(cs.drop o).take (P.cellsOf u)++cs.drop (o+P.cellsOf u):=(by rw[<-List.drop_drop,tL]);rw[e];exact vG.append (a1.mono fun _ _ _ ⟨f,q,h1,h2⟩=>⟨f,q,Nat.le_succ_of_le h1,h2⟩) a3
         ·rw[hb.append,fG,hb.cons];show _<=bk d1+_;omega
        ·cases g3
       ·cases g3
     have:=key pl 0 xs JA (by rw[hl];exact hcon) hx aso;obtain⟨ds,h1,h2⟩:=this;exact⟨ds,Br,bZ h2 (hb.agg _)⟩
   ·cases h
  ·split at h
   ·rename_i hlf
    simp only[iE] at h;subst h;obtain⟨c,rfl⟩:=aii hlf.1 ht;refine⟨[d],⟨⟨fuel,ps,RS _,ht,hlf.1⟩,trivial⟩,?_⟩;rw[hb.cons,hb.nil];omega
   ·cases h
def sN (K:aV)(T:Nat->Nat)(w:World)(vs:List V)(cs:List Value):Prop:=vs.length=cs.length/\∀j,j<vs.length->Rel K T w (vs.getD j aK) (cs.getD j undef)
theorem sN.cons {K:aV}{T:Nat->Nat}{v:V}{c:Value}{vs:List V}{cs:List Value}(h:Rel K T w v c)(hs:sN K T w vs cs):sN K T w (v::vs) (c::cs):=by
 refine⟨by simp[hs.1],fun j hj=>?_⟩;cases j with
 |zero=>exact h|succ j=>simpa using hs.2 j vO
variable (R:gY)
def oN (P:Program)(t:TypeId):Ty->Bool
 |.int k=>match P.underlying t with
  |some (.int k')=>decide (k'=k)|_=>false
 |.bool=>match P.underlying t with
  |some .bool=>true|_=>false
 |.str=>match P.underlying t with
  |some .string=>true|_=>false
 |.slice τ=>match P.underlying t with
  |some (.slice e)=>decide (R.ty e=some τ)&& decide (0<P.cellsOf e)|_=>false
 |.st n=>match Jz P 10 t with
  |some ts=>decide (ts.map R.ty=(R.lf n).map some)&& (NS P t).isSome|none=>false
def allI (w:World)(b o:Nat):Prop:=∃v,w.cell? (at_ b o)=some v
abbrev sO (w:World):aV:=aV.lend (allI w) (tX w)
theorem aaA {α β:Type}{f:α->Option β}:∀{l:List α}{r:List β},l.mapM f=some r->r.length=l.length/\∀(i:Nat)(hi:i<l.length)(hr:i<r.length),f l[i]=some r[i]:=by
 intro l;induction l with
 |nil=>intro r h;simp at h;subst h;exact⟨rfl,fun i hi=>absurd hi (gK i)⟩
 |cons a l ih=>
  intro r h;simp only[jL,Option.bind_eq_bind,iR,Option.pure_def,iE] at h;obtain⟨y,h1,ys,h2,rfl⟩:=h;obtain⟨h3,h4⟩:=ih h2;refine⟨by simp[h3],fun i hi hr=>?_⟩;cases i with
  |zero=>exact h1|succ i=>exact h4 i jI (by simpa using hr)
theorem aij {base:Nat}{a:Addr}{n:Nat}{cs:List Value}(h:w.cells? base a n=some cs):cs.length=n/\∀j,j<n->w.cell? (a.add j)=some (cs.getD j undef):=by
 unfold World.cells? at h;split at h
 ·obtain⟨h1,h2⟩:=aaA h
  rw[List.length_range] at h1;refine⟨h1,fun j hj=>?_⟩;have:=h2 j vO ah;simp only[Lu] at this;rw[this,yP,jM ah];rfl
 ·cases h
theorem plain_of_cell {a:Addr}{v:Value}(h:w.cell? a=some v):a=at_ a.block a.off:=by
 unfold World.cell? at h;obtain⟨b,o,s⟩:=a;cases s with
 |none=>rfl|some s=>dsimp only at h;split at h<;>simp at h
theorem aik (hb:Bulk H bk bs)(hR:rE R){T:Nat->Nat}{Q:TypeId->Value->DataW H->Prop}(hq:∀u c d τ,Q u c d->R.ty u=some τ->pR τ=true->∃x:Den R.T τ,Rel (sO w) T w (aX R τ x) c/\lV (aX R τ x)<=bk d):
 ∀(l:List Ty)(ts:List TypeId)(cs:List Value)(ds:List (DataW H)),l.all pR=true->ts.map R.ty=l.map some->vG Q ts cs ds->∃p:qx R.T l,sN (sO w) T w (encs R l p) cs/\sM (encs R l p)<=bs ds
 | [],ts,cs,ds,_,hm,h=>by
   have:ts=[]:=by simpa using hm
   subst this;cases cs with
   |nil=>cases ds with
    |nil=>exact⟨(),⟨rfl,fun j hj=>absurd hj (gK j)⟩,by rw[hb.nil];exact RS _⟩
    |cons=>exact h.elim
   |cons=>exact h.elim
 | [τ],ts,cs,ds,hl,hm,h=>by
   cases ts with
   |nil=>simp at hm|cons u ts=>
    simp only[fG,List.map_nil,qb,List.map_eq_nil_iff] at hm;obtain⟨hu,rfl⟩:=hm;cases cs with
    |nil=>exact h.elim|cons c cs=>cases ds with
     |nil=>exact h.elim|cons d ds=>
      obtain⟨h1,h2⟩:=h;cases cs with
      |cons=>exact h2.elim|nil=>cases ds with
       |cons=>exact h2.elim|nil=>obtain⟨x,h3,h4⟩:=hq u c d τ h1 hu yN;refine⟨x,sN.cons h3 ⟨rfl,fun j hj=>absurd hj (gK j)⟩,?_⟩;rw[hb.cons,hb.nil];show lV _+0<=_;omega
 |τ::fO::l,ts,cs,ds,hl,hm,h=>by
  cases ts with
  |nil=>simp at hm|cons u ts=>
   rw[fG,fG] at hm;injection hm with hu hm
   cases cs with
   |nil=>exact h.elim|cons c cs=>cases ds with
    |nil=>exact h.elim|cons d ds=>obtain⟨h1,h2⟩:=h;rw[List.all_cons,iP] at hl;obtain⟨x,h3,h4⟩:=hq u c d τ h1 hu hl.1;obtain⟨p,h5,h6⟩:=aik hb hR hq (fO::l) ts cs ds hl.2 hm h2;refine⟨(x,p),sN.cons h3 h5,?_⟩;rw[hb.cons];show lV (aX R τ x)+sM (encs R (fO::l) p)<=_;omega
theorem asu (τ:Ty)(hl:pR τ=true)(x:Den R.T τ):(aX R τ x).cells=[aX R τ x]:=by
 cases τ with
 |st n=>simp[pR] at hl|_=>rfl
theorem asv (hb:Bulk H bk bs)(hR:rE R){T:Nat->Nat}(hty:∀t τ,R.ty t=some τ->oN R P t τ=true):∀(fuel:Nat)(t:TypeId)(cs:List Value)(d:DataW H)(ps:List MemPlace)(τ:Ty),R.ty t=some τ->mP enc P w fuel t cs=some (d,ps)->
 ∃x:Den R.T τ,sN (sO w) T w (aX R τ x).cells cs/\lV (aX R τ x)<=bk d:=by
 intro fuel;induction fuel using Nat.strongRecOn with
 |_ fuel ih=>
  have leaf:∀f,f<=fuel->∀u c d p τ,pR τ=true->R.ty u=some τ->mP enc P w f u [c]=some (d,p)->∃x:Den R.T τ,Rel (sO w) T w (aX R τ x) c/\lV (aX R τ x)<=bk d:=by
   intro f hf u c d p τ hl hu h;cases f with
   |zero=>simp[mP,DataW.trod] at h|succ f=>
    have ho:=hty u τ hu;cases τ with
    |st n=>simp[pR] at hl|int k=>
     simp only[oN] at ho;split at ho
     ·rename_i k' hk
      have:=of_decide_eq_true ho;subst this;cases c with
      |int k2 n=>
       simp only[mP,DataW.trod,hk] at h;split at h
       ·rename_i hkk
        obtain⟨rfl,hwf⟩:=hkk;simp only[iE,aP] at h;obtain⟨rfl,rfl⟩:=h;exact⟨(n:Int),.int _ _,by show 1+aay _ _<=_;rw[asj hwf];exact hb.one _⟩
       ·cases h
      |_=>simp only[mP,DataW.trod,hk] at h;cases h
     ·cases ho
    |bool=>
     simp only[oN] at ho;split at ho
     ·rename_i hk
      cases c with
      |bool b=>exact⟨(b:Bool),.bool _,hb.one _⟩|_=>simp only[mP,DataW.trod,hk] at h;cases h
     ·cases ho
    |str=>
     simp only[oN] at ho;split at ho
     ·rename_i hk
      cases c with
      |string b=>
       simp only[mP,DataW.trod,hk] at h;split at h
       ·simp only[iE,aP] at h
        obtain⟨rfl,rfl⟩:=h;exact⟨b.data.toList,.str _ _ rfl,hb.str _⟩
       ·cases h
      |_=>simp only[mP,DataW.trod,hk] at h;cases h
     ·cases ho
    |slice τ=>
     simp only[oN] at ho;split at ho
     ·rename_i e hk
      rw[iP] at ho;have he:=of_decide_eq_true ho.1;have hpos:=of_decide_eq_true ho.2;cases c with
      |slice a len cap=>
       cases a with
       |none=>
        cases len with
        |succ n=>simp only[mP,DataW.trod,hk] at h;cases h|zero=>cases cap with
         |succ n=>simp only[mP,DataW.trod,hk] at h;cases h|zero=>exact⟨([]:List (Den R.T τ)),.fu .sh none (fun _=>rfl) trivial,hb.one _⟩
       |some a=>
        simp only[mP,DataW.trod,hk] at h;split at h
        ·rename_i hc
         obtain⟨_,hlc,_⟩:=hc;simp only[iR,if_true,aZ,aP] at h;obtain⟨elems,h1,rest,h2,rfl,rfl⟩:=h;obtain⟨e1,e2⟩:=aaA h1;obtain⟨r1,r2⟩:=aaA h2;rw[List.length_range] at e1 r1;have hplain:0<cap->a=at_ a.block a.off:=fun hcap=>by
          have hread:∃i cs x,w.cells? 0 (a.add (i*P.cellsOf e)) (P.cellsOf e)=some cs/\mP enc P w f e cs=some x/\i=0:=by
           by_cases hl0:0<len
           ·have:=e2 0 (by simpa using hl0) ah
            simp only[Lu,iR] at this;obtain⟨cs,g1,g2⟩:=this;exact⟨0,cs,_,g1,g2,rfl⟩
           ·have:=r2 0 jR ah
            simp only[Lu,iR] at this;obtain⟨cs,g1,g2⟩:=this;exact⟨len+0,cs,_,g1,g2,ah⟩
          obtain⟨i,cs,_,g1,_,rfl⟩:=hread;have:=(aij g1).2 0 hpos;have ha:(a.add (0*P.cellsOf e)).add 0=a:=(by simp[Addr.add]);rw[ha] at this;exact plain_of_cell this
         have hel:∀i,∃x:Den R.T τ,∃JB:List Value,∀hi:i<elems.length,(∀j,j<P.cellsOf e->w.cell? ((a.add (i*P.cellsOf e)).add j)=some (JB.getD j undef))/\JB.length=P.cellsOf e/\
          sN (sO w) T w (aX R τ x).cells JB/\lV (aX R τ x)<=bk elems[i].1:=fun i=>by
          by_cases hi:i<elems.length
          ·have:=e2 i (by simpa using (by omega:i<len)) hi
           simp only[Lu,iR] at this;obtain⟨JB,g1,g2⟩:=this;obtain⟨c1,c2⟩:=aij g1;obtain⟨x,x1,x2⟩:=ih f ah e JB elems[i].1 elems[i].2 τ he g2;exact⟨x,JB,fun _=>⟨c2,c1,x1,x2⟩⟩
          ·exact⟨Iq R τ,[],fun h=>absurd h hi⟩
         let xs:List (Den R.T τ):=(List.range elems.length).map fun i=>(hel i).choose
         have hxs:∀i (hi:i<xs.length) (hi':i<elems.length),(∀j,j<P.cellsOf e->w.cell? ((a.add (i*P.cellsOf e)).add j)=some ((hel i).choose_spec.choose.getD j undef))/\(hel i).choose_spec.choose.length=P.cellsOf e/\
          sN (sO w) T w (aX R τ xs[i]).cells (hel i).choose_spec.choose/\lV (aX R τ xs[i])<=bk elems[i].1:=fun i hi hi'=>by
          have:=(hel i).choose_spec.choose_spec hi';have e:xs[i]=(hel i).choose:=(by simp[xs]);rw[e];exact this
         have hxl:xs.length=len:=(by simp[xs,e1]);refine⟨(xs:List (Den R.T τ)),?_,?_⟩
         ·show Rel _ _ _ (.ay .sh (xs.map (aX R τ))) (.slice (some a) len cap)
          by_cases hcap:0<cap
          ·obtain⟨b,o,s⟩:=a
           have hs:s=none:=(by have:=hplain hcap;simp only[at_,Addr.mk.injEq] at this;exact this.2.2);subst hs;have key:Rel (sO w) T w (.ay .sh (xs.map (aX R τ))) (.slice (some (at_ b o)) (xs.map (aX R τ)).length cap):=by
            refine .ay .sh _ b o (P.cellsOf e) cap (fun i j=>if hi:i<elems.length then (hel i).choose_spec.choose.getD j undef else undef) (by rw[jS,hxl];exact hlc) (fun i hi=>?_) (fun i j hi hj=>?_) (fun i j hi hj=>?_) trivial;all_goals
             rw[jS] at hi;have hi':i<elems.length:=ah;obtain⟨y1,y2,y3,y4⟩:=hxs i hi hi';have hg:(xs.map (aX R τ)).getD i aK=aX R τ xs[i]:=by simp[List.getD,hi]
            ·rw[hg];exact y3.1.trans y2
            ·rw[dif_pos hi']
             have hadd:at_ b (o+i*P.cellsOf e+j)=((⟨b,o,none⟩:Addr).add (i*P.cellsOf e)).add j:=(by rw[show (⟨b,o,none⟩:Addr)=at_ b o from rfl,addr_add,addr_add]);have this:=(congrArg w.cell? hadd).trans (y1 j hj);exact⟨this,_,this⟩
            ·rw[hg,dif_pos hi']
             exact y3.2 j (by rw[y3.1,y2];exact hj)
           rw[jS,hxl] at key;exact key
          ·have h0:len=0:=ah
           have h0':cap=0:=ah;subst h0;subst h0';have:xs=[]:=lZ hxl;rw[this];exact .fu .sh (some a) (fun h=>bC) trivial
         ·show sM (xs.map (aX R τ))+1<=_
          refine bZ (Nat.succ_le_succ ?_) (hb.sl _ _);have asw:∀(l:List (Den R.T τ))(m:List (DataW H×List MemPlace)),l.length=m.length->(∀i (hi:i<l.length) (hi':i<m.length),lV (aX R τ l[i])<=bk m[i].1)->sM (l.map (aX R τ))<=bs (m.map (·.1)):=by
           intro l;induction l with
           |nil=>intro m _ _;exact kN _|cons x l ihl=>
            intro m hm hle;cases m with
            |nil=>simp at hm|cons y m=>rw[fG,fG,hb.cons];have h0:=hle 0 aC aC;have h1:=ihl m (by simpa using hm) (fun i hi hi'=>hle (i+1) jI (by simpa using hi'));simp only[List.getElem_cons_zero] at h0;show lV _+sM _<=_;omega
          exact asw xs elems (by rw[hxl,e1]) fun i hi hi'=>(hxs i hi hi').2.2.2
        ·cases h
      |_=>simp only[mP,DataW.trod,hk] at h;cases h
     ·cases ho
  have ho:=hty;intro t cs d ps τ ht h;cases τ with
  |st n=>
   have ho:=hty t _ ht;simp only[oN] at ho;split at ho
   ·rename_i ts hts
    rw[iP] at ho;have hm:=of_decide_eq_true ho.1;obtain⟨ds,h1,h2⟩:=asn hb _ _ _ _ _ _ _ hts h;obtain⟨p,h3,h4⟩:=aik R hb hR (Q:=aaz enc P w fuel) (T:=T) (fun u c d τ hq hu hl=>by obtain⟨f,q,hf,hq,_⟩:=hq;exact leaf f hf u c d q τ hl hu hq) (R.lf n) ts cs ds (hR.leaf n) hm h1;refine⟨R.to n p,?_,?_⟩
    ·show sN _ _ _ (R.enc n (R.to n p)).cells cs
     rw[hR.enc,hR.M9];exact h3
    ·show lV (R.enc n (R.to n p))<=_
     rw[hR.enc,hR.M9];exact bZ h4 h2
   ·cases ho
  |_=>
   have hl:Jy P t=true:=by
    have ho:=hty t _ ht;simp only[oN] at ho;split at ho
    ·rename_i hu;simp[Jy,hu]
    ·cases ho
   obtain⟨c,rfl⟩:=aii hl h;obtain⟨x,h1,h2⟩:=leaf fuel (RS _) t c d ps _ rfl ht h;refine⟨x,?_,h2⟩;rw[asu R _ rfl];exact sN.cons h1 ⟨rfl,fun j hj=>absurd hj (gK j)⟩
end
end aY
end
section
namespace aY
open Go Go.RowKit Go.ChangeShapes Go.WideShapes
section
variable {P:Program}{w:World}{H:Type}{enc:TypeId×Value->H}{bk:DataW H->Nat}{bs:List (DataW H)->Nat}(R:gY)
theorem ail (hb:Bulk H bk bs)(hR:rE R){T:Nat->Nat}(hty:∀t τ,R.ty t=some τ->oN R P t τ=true){t:TypeId}{v:Value}{d:DataW H}{ps:List MemPlace}{τ:Ty}(ht:R.ty t=some τ){r:Reach}{base:Nat}(hok:Value.okWide P w r base t v)(h:DataW.Trod enc P w 0 (fun _=>true) true t v d ps):∃x:Den R.T τ,Rel (sO w) T w (aX R τ x) v/\lV (aX R τ x)<=bk d:=by
 obtain⟨fuel,h⟩:=h;obtain⟨x,h1,h2⟩:=asv R hb hR (T:=T) hty fuel t _ d ps τ ht h;refine⟨x,?_,h2⟩;have ho:=hty t τ ht;have one:∀c,v=c->c.cells= #[c]->(aX R τ x).cells=[aX R τ x]->Rel (sO w) T w (aX R τ x) v:=by intro c hv hc he;subst hv;rw[hc,he] at h1;exact h1.2 0 aC
 cases τ with
 |int k=>
  simp only[oN] at ho;split at ho
  ·rename_i k' hu
   obtain⟨n,rfl⟩:=okWide_int hu hok;exact one _ rfl rfl rfl
  ·cases ho
 |bool=>
  simp only[oN] at ho;split at ho
  ·rename_i hu
   obtain⟨n,rfl⟩:=okWide_bool hu hok;exact one _ rfl rfl rfl
  ·cases ho
 |str=>
  simp only[oN] at ho;split at ho
  ·rename_i hu
   obtain⟨n,rfl⟩:=okWide_string hu hok;exact one _ rfl rfl rfl
  ·cases ho
 |slice τ=>
  simp only[oN] at ho;split at ho
  ·rename_i e hu
   obtain⟨a,l,c,rfl⟩:=okWide_slice hu hok;exact one _ rfl rfl rfl
  ·cases ho
 |st n=>
  simp only[oN] at ho;split at ho
  ·rename_i ts hts
   rw[iP] at ho;have hagg:∃cs,v= .agg cs:=by
    have hs:=ho.2;unfold NS at hs;unfold Value.okWide at hok;split at hs
    ·rename_i fs hu
     rw[hu] at hok;exact⟨_,hok.choose_spec.1⟩
    ·rename_i m e hu
     rw[hu] at hok;exact⟨_,hok.choose_spec.1⟩
    ·cases hs
   obtain⟨cs,rfl⟩:=hagg;have he:aX R (.st n) x= .agg (encs R (R.lf n) (R.of n x)):=hR.enc n x;rw[he] at h1⊢;obtain⟨h3,h4⟩:=h1;have h3':(encs R (R.lf n) (R.of n x)).length=cs.toList.length:=h3;refine .agg _ cs (by simpa using h3') (fun i hi=>?_);have h5:Rel (sO w) T w ((encs R (R.lf n) (R.of n x)).getD i aK) (cs.toList.getD i undef):=h4 i hi;simpa [yP,Ac] using h5
  ·cases ho
theorem ain (hb:Bulk H bk bs)(hR:rE R){T:Nat->Nat}(hty:∀t τ,R.ty t=some τ->oN R P t τ=true){r:Reach}{base:Nat}:∀(l:List Ty)(ts:List TypeId)(vs:List Value)(ds:List (DataW H))(ps:List MemPlace),ts.map R.ty=l.map some->(∀(j:Nat) t v,ts[j]? =some t->vs[j]? =some v->Value.okWide P w r base t v)->DataW.TrodAll enc P w 0 (fun _=>true) true ts vs ds ps->
 ∃p:aW R.T (l.map aM.d),sN (sO w) T w (bX R (l.map aM.d) p) vs/\sM (bX R (l.map aM.d) p)<=bs ds
 | [],ts,vs,ds,ps,hm,hok,h=>by
   have:ts=[]:=by simpa using hm
   subst this;obtain⟨rfl,rfl,rfl⟩:=trodAll_nil h;exact⟨(),⟨rfl,fun j hj=>absurd hj (gK j)⟩,by rw[hb.nil];exact RS _⟩
 | [τ],ts,vs,ds,ps,hm,hok,h=>by
   cases ts with
   |nil=>simp at hm|cons u ts=>simp only[fG,List.map_nil,qb,List.map_eq_nil_iff] at hm;obtain⟨hu,rfl⟩:=hm;obtain⟨v0,vs0,d0,ds0,p0,q0,rfl,rfl,rfl,h0,r0⟩:=trodAll_cons h;obtain⟨rfl,rfl,rfl⟩:=trodAll_nil r0;obtain⟨x,h3,h4⟩:=ail R hb hR (T:=T) hty hu (hok 0 u v0 rfl rfl) h0;refine⟨x,sN.cons h3 ⟨rfl,fun j hj=>absurd hj (gK j)⟩,?_⟩;rw[hb.cons,hb.nil];show lV (aX R τ x)+0<=_;omega
 |τ::fO::l,ts,vs,ds,ps,hm,hok,h=>by
  cases ts with
  |nil=>simp at hm|cons u ts=>
   rw[fG,fG] at hm;injection hm with hu hm
   obtain⟨v0,vs0,d0,ds0,p0,q0,rfl,rfl,rfl,h0,r0⟩:=trodAll_cons h;obtain⟨x,h3,h4⟩:=ail R hb hR (T:=T) hty hu (hok 0 u v0 rfl rfl) h0;obtain⟨p,h5,h6⟩:=ain hb hR hty (fO::l) ts vs0 ds0 q0 hm (fun j t v h1 h2=>hok (j+1) t v h1 h2) r0;refine⟨(x,p),sN.cons h3 h5,?_⟩;rw[hb.cons];show lV (aX R τ x)+sM (bX R ((fO::l).map aM.d) p)<=_;omega
theorem asx {K:aV}{T:Nat->Nat}{vs:List V}{args:Array Value}(h:sN K T w vs args.toList):RelA K T w vs args:=by refine⟨by simpa using h.1,fun i hi=>?_⟩;have:=h.2 i hi;simpa [yP,Ac] using this
end
section
variable {P:Program}{H:Type}{enc:TypeId×Value->H}
theorem aio {FU:TypeId->Prop}(K:Kids P FU)(hsz:∀{t e:TypeId},FU t->P.underlying t=some (.slice e)->0<P.cellsOf e){W W':World}(hbel:Below W.heap.size W W'){sp:Nat->Bool}:
 ∀{ts:List TypeId}{vs:List Value}{ds:List (DataW H)}{ps:List MemPlace},(∀t∈ts,FU t)->DataW.TrodAll enc P W 0 (fun _=>true) true ts vs ds ps->(∀p∈ps,p.block<W.heap.size)->(∀p∈ps,sp p.block=true)->DataW.TrodAll enc P W' 0 sp true ts vs ds ps
 | [],[],[],_,_,h,_,_=>h|_::_,_::_,_::_,_,hT,⟨p,q,⟨n,h1⟩,h2,e⟩,hlt,hs=>by subst e;refine⟨p,q,⟨n,?_⟩,aio K hsz hbel (fun t ht=>hT t (iK _ ht)) h2 (fun x hx=>hlt x (qQ _ hx)) (fun x hx=>hs x (qQ _ hx)),rfl⟩;exact DataW.trod_stays K hsz (fun h=>bC) (hT _ aC) h1 (fun x hx=>hbel.kit.same (hlt x (uR _ hx))) (fun x hx=>hs x (uR _ hx))
 | [],_::_,_,_,_,h,_,_=>h.elim| [],[],_::_,_,_,h,_,_=>h.elim|_::_,[],_,_,_,h,_,_=>h.elim|_::_,_::_,[],_,_,h,_,_=>h.elim
theorem asy {f:Func}{s:ChangeSpec}{apart fresh handsOn again:Bool}{W W':World}{args:Array Value}{v:Value}{ds gs:List (DataW H)}{before pa pv:List MemPlace}(hW:DataW.Whole enc P f.params.toList s.vars apart W args.toList ds gs before)(hres:∀(b:Nat) (sp:Nat->Bool) (hd:Bool),DataW.TrodAll enc P W' b sp hd f.resultTypes.toList (v.resultList f.resultTypes.size) (s.fn H (ds++gs)).results [])(hargs:∀sp:Nat->Bool,(∀p∈before,sp p.block=true)->DataW.TrodAll enc P W' 0 sp true f.params.toList args.toList (s.fn H (ds++gs)).args pa)(hvars:∀sp:Nat->Bool,(∀p∈before,sp p.block=true)->DataW.TrodVars enc P W' sp s.vars (s.fn H (ds++gs)).vars pv)(hps:before=pa++pv)(hbel:Below W.heap.size W W')(hok:∀(j:Nat) (t:TypeId) (r:Value),f.resultTypes[j]? =some t->(v.resultList f.resultTypes.size)[j]? =some r->Value.okWide P W' .any 0 t r):
 s.post enc P f apart fresh handsOn again W args v W':=by
 have hlt:∀p∈before,p.block<W.heap.size:=hW.lt;have hold:∀p∈before,(fun b=>decide (b<W.heap.size)) p.block=true:=fun p hp=>by simpa using hlt p hp
 refine⟨ds,gs,before,[],pa,pv,hW,hres _ _ _,hargs _ hold,hvars _ hold,World.keptBut_mono (fun p hp=>⟨hp,?_⟩) (hbel.kit.frame (· ∈before)),fun _=>?_⟩
 ·rw[hps,oW] at hp
  exact Or.inr hp
 ·obtain⟨_,_,_,_,_,hz,hn⟩:=hW
  refine⟨hok,_,_,([]++pa)++pv,⟨[]++pa,pv,trodAll_append (hargs _ (fun _ _=>rfl)) (hres _ _ _),hvars _ (fun _ _=>rfl),rfl,?_,?_⟩,?_⟩
  ·intro b off hp
   have hp':MemPlace.cell b off∈before:=by rw[hps];simpa using hp
   rw[hbel.kit.frozen (p:=⟨b,off,none⟩) (hlt _ hp')];exact hz b off hp'
  ·intro ha
   have:=hn ha;rw[hps] at this;simpa using this
  ·intro p hp _
   rw[hps];simpa using hp
end
section
variable {P:Program}{w:World}(R:gY)
def aaB:(τ:Ty)->Den R.T τ->Prop
 |.int k,x=>k.has (show Int from x)|_,_=>True
def Uy:(l:List Ty)->aW R.T (l.map aM.d)->Prop
 | [],_=>True| [τ],x=>aaB R τ x|τ::fO::l,p=>aaB R τ p.1/\Uy (fO::l) p.2
theorem aip (hty:∀t τ,R.ty t=some τ->oN R P t τ=true){T:Nat->Nat}{t:TypeId}{v:Value}{τ:Ty}(ht:R.ty t=some τ){r:Reach}{base:Nat}(hok:Value.okWide P w r base t v){x:Den R.T τ}(h:Rel (sO w) T w (aX R τ x) v):aaB R τ x:=by
 have ho:=hty t τ ht;cases τ with
 |int k=>
  simp only[oN] at ho;split at ho
  ·rename_i k' hu
   have hk:k'=k:=of_decide_eq_true ho;subst hk;have h':Rel (sO w) T w (.int k' x) v:=h;cases h';unfold Value.okWide at hok;rw[hu] at hok;have h2:Cell.ok P w r base t (.int k' x):=by unfold Cell.okWide at hok;rw[hu] at hok;exact hok
   unfold Cell.ok at h2;rw[hu] at h2;exact h2.2
  ·cases ho
 |bool=>trivial|str=>trivial|slice τ=>trivial|st n=>trivial
theorem aiq (hty:∀t τ,R.ty t=some τ->oN R P t τ=true){T:Nat->Nat}{r:Reach}{base:Nat}:∀(l:List Ty)(ts:List TypeId)(vs:List Value)(p:aW R.T (l.map aM.d)),ts.map R.ty=l.map some->(∀(j:Nat) t v,ts[j]? =some t->vs[j]? =some v->Value.okWide P w r base t v)->sN (sO w) T w (bX R (l.map aM.d) p) vs->Uy R l p
 | [],ts,vs,p,hm,hok,h=>trivial| [τ],ts,vs,x,hm,hok,h=>by
   obtain⟨h1,h2⟩:=h;cases ts with
   |nil=>simp at hm|cons u ts=>
    simp only[fG,List.map_nil,qb,List.map_eq_nil_iff] at hm;obtain⟨hu,rfl⟩:=hm;cases vs with
    |nil=>cases h1|cons v vs=>exact aip R hty hu (hok 0 u v rfl rfl) (h2 0 (Nat.zero_lt_one))
 |τ::fO::l,ts,vs,p,hm,hok,h=>by
  obtain⟨h1,h2⟩:=h;cases ts with
  |nil=>simp at hm|cons u ts=>
   rw[fG,fG] at hm;injection hm with hu hm
   cases vs with
   |nil=>cases h1|cons v vs=>
    refine⟨aip R hty hu (hok 0 u v rfl rfl) (h2 0 (Nat.zero_lt_succ _)),aiq hty (T:=T) (fO::l) ts vs p.2 hm (fun j t v h1 h2=>hok (j+1) t v h1 h2) ⟨?_,fun j hj=>?_⟩⟩
    ·exact Nat.succ.inj h1
    ·exact h2 (j+1) (Nat.succ_lt_succ hj)
end
theorem asz {E:Env}{R:gY}{H:Type}{enc:TypeId×Value->H}{bk:DataW H->Nat}{bs:List (DataW H)->Nat}(hb:Bulk H bk bs)(hR:rE R)(hty:∀t τ,R.ty t=some τ->oN R E.P t τ=true){FU:TypeId->Prop}(K:Kids E.P FU)(hsz:∀{t e:TypeId},FU t->E.P.underlying t=some (.slice e)->0<E.P.cellsOf e){f:FuncId}{fn:Func}{s:ChangeSpec}{apart fresh handsOn again:Bool}{W:World}{base:Nat}{args:Array Value}{ds gs:List (DataW H)}{before:List MemPlace}{l:List Ty}(hl:fn.params.toList.map R.ty=l.map some)(hT:∀t∈fn.params.toList,FU t)(hvars:s.vars=[])(hspec:s.fn H ds={results:=[.lit (.bool true)],args:=ds}){tb:TypeId}(hres:fn.resultTypes= #[tb])(aaC:E.P.underlying tb=some .bool)(hval:∀(j:Nat) t v,fn.params[j]? =some t->args[j]? =some v->Value.okWide E.P W .any base t v)(hW:DataW.Whole enc E.P fn.params.toList s.vars apart W args.toList ds gs before)(asA:∀g cs,E.glob g=some cs->Rel (sO W) (fun _=>0) W (.aI cs 0) (.pointer (some (at_ g 0))))(asB:∀p:aW R.T (l.map aM.d),sM (bX R (l.map aM.d) p)<=bs ds->Uy R l p->qY E f (bX R (l.map aM.d) p) (.bool true)):
 Calls E.P f args W fun e W'=>∃v,e= .returned v/\s.post enc E.P fn apart fresh handsOn again W args v W':=by
 have hW':=hW;obtain⟨p,q,hA,hV,hpq,_,_⟩:=hW;rw[hvars] at hV;obtain⟨rfl,rfl⟩:=trodVars_none hV;rw[lF] at hpq;subst hpq;obtain⟨x,h1,h2⟩:=ain R hb hR (T:=fun _=>0) hty (r:=.any) (base:=base) l fn.params.toList args.toList ds _ hl (fun j t v h1 h2=>hval j t v Br qN) hA;obtain⟨_,hcall⟩:=asB x h2 (aiq R hty l fn.params.toList args.toList x hl (fun j t v h1 h2=>hval j t v Br qN) h1);have hc:=callsIn_wide.1 (hcall (allI W) _ W args ⟨fun b o h=>h,fun b h=>h,asA⟩ (asx h1));refine hc.mono fun e W' he=>?_;cases e with
 |returned c=>
  obtain⟨hbel,hrel⟩:=he;cases hrel;have hlt:∀p∈before,p.block<W.heap.size:=hW'.lt;refine⟨_,rfl,asy (pa:=before) (pv:=[]) hW' (fun b sp hd=>?_) (fun sp hs=>?_) (fun sp hs=>?_) aC hbel ?_⟩
  ·rw[lF,hspec,hres]
   exact trodAll_mk1 ⟨1,by simp[DataW.trod,aaC,Value.cells]⟩
  ·rw[lF,hspec]
   exact aio K hsz hbel hT hA hlt hs
  ·rw[lF,hspec,hvars];exact rfl
  ·exact ok_one hres rfl (by unfold Value.okWide;rw[aaC];simp[Cell.okWide,Cell.ok,aaC])
 |panicked ch=>exact he.elim|outgrown=>exact he.elim
end aY
end
