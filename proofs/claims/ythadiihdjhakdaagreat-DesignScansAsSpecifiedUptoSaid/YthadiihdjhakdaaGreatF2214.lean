import Derived.ChangeSame
import Derived.ChangeShapes
import Derived.ChangeStays
import Derived.RowKit
import Derived.Test.YthadiihdjhakdaaGreatF2213
import Derived.WideShapes
set_option linter.all false
section
namespace aR
open Go Go.RowKit
mutual
def ko:V->Nat
 |.str s=>s.length+1|.agg cs=>nQ cs|.ay _ l=>nQ l+1|_=>1
def nQ:List V->Nat
 | []=>0|v::l=>ko v+nQ l
end
def abj (k:IntKind)(n:Int):Nat:=if (Lit.int k n).wf=true then 0 else 2^64
theorem avd {k:IntKind}{n:Int}(h:(Lit.int k n).wf=true):abj k n=0:=if_pos h
mutual
def kU:V->Nat
 |.str s=>s.length+1|.agg cs=>rz cs|.ay _ l=>rz l+1|.int k n=>1+abj k n|_=>1
def rz:List V->Nat
 | []=>0|v::l=>kU v+rz l
end
mutual
theorem abk:∀v:V,ko v<=kU v
 |.str s=>by simp[ko,kU]|.agg cs=>by simp only[ko,kU];exact Wy cs|.ay _ l=>by simp only[ko,kU];exact Nat.add_le_add_right (Wy l) 1|.int k n=>by simp[ko,kU]|.bool _|.iC|.gQ|.gD|.iH|.bB _|.aM .. |.ref .. |.cu .. |.aY .. |.fn .. |.dV .. |.iface .. |.raw _=>by simp[ko,kU]
theorem Wy:∀l:List V,nQ l<=rz l
 | []=>iP _|v::l=>by simp only[nQ,rz];exact Nat.add_le_add (abk v) (Wy l)
end
structure Bulk (H:Type)(bk:DataW H->Nat)(bs:List (DataW H)->Nat):Prop where
 one:∀d,1<=bk d
 str:∀s,s.length+1<=bk (.lit (.string s))
 agg:∀l,bs l<=bk (.agg l)
 sl:∀l r,bs l+1<=bk (.slice l r)
 nil:bs []=0
 cons:∀d l,bs (d::l)=bk d+bs l
section
variable {H:Type}{bk:DataW H->Nat}{bs:List (DataW H)->Nat}(hb:Bulk H bk bs)
include hb
theorem Bulk.append (a b:List (DataW H)):bs (a++b)=bs a+bs b:=by
 induction a with
 |nil=>simp[hb.nil]|cons v a ih=>simp only[List.cons_append,hb.cons,ih];omega
end
def uD {α β γ:Type}(Q:α->β->γ->Prop):List α->List β->List γ->Prop
 | [],[],[]=>True|t::ts,c::cs,d::ds=>Q t c d/\uD Q ts cs ds|_,_,_=>False
theorem uD.append {α β γ:Type}{Q:α->β->γ->Prop}:∀{a a':List α}{b b':List β}{c c':List γ},uD Q a b c->uD Q a' b' c'->uD Q (a++a') (b++b') (c++c')
 | [],_,[],_,[],_,_,h=>h|_::_,_,_::_,_,_::_,_,h,h'=>⟨h.1,h.2.append h'⟩| [],_,_::_,_,_,_,h,_=>h.elim| [],_,[],_,_::_,_,h,_=>h.elim|_::_,_,[],_,_,_,h,_=>h.elim|_::_,_,_::_,_,[],_,h,_=>h.elim
theorem uD.mono {α β γ:Type}{Q Q':α->β->γ->Prop}(hq:∀a b c,Q a b c->Q' a b c):∀{a:List α}{b:List β}{c:List γ},uD Q a b c->uD Q' a b c
 | [],[],[],_=>trivial|_::_,_::_,_::_,h=>⟨hq _ _ _ h.1,h.2.mono hq⟩| [],_::_,_,h=>h.elim| [],[],_::_,h=>h.elim|_::_,[],_,h=>h.elim|_::_,_::_,[],h=>h.elim
theorem uD.len {α β γ:Type}{Q:α->β->γ->Prop}:∀{a:List α}{b:List β}{c:List γ},uD Q a b c->a.length=b.length
 | [],[],[],_=>rfl|_::_,_::_,_::_,h=>by simp[h.2.len]| [],_::_,_,h=>h.elim| [],[],_::_,h=>h.elim|_::_,[],_,h=>h.elim|_::_,_::_,[],h=>h.elim
section
variable (P:Program)
def Po (t:TypeId):Option (List (Nat×TypeId)):=match P.underlying t with
 |some (.struct fs)=>some (fs.toList.map fun f=>(f.offset,f.type))
 |some (.array n e)=>some ((List.range n).map fun i=>(i*P.cellsOf e,e))
 |_=>none
def Jh (t:TypeId):Bool:=match P.underlying t with
 |some .bool=>true|some (.int _)=>true|some .string=>true|some (.slice _)=>true|_=>false
def Pp:List (Nat×TypeId)->Nat->Nat->Bool
 | [],off,tot=>off==tot| (o,u)::l,off,tot=>o==off&& Pp l (off+P.cellsOf u) tot
def Ji:Nat->TypeId->Option (List TypeId)
 |0,_=>none|k+1,t=>match Po P t with
  |some ps=>if Pp P ps 0 (P.cellsOf t)=true then (ps.mapM fun (p:Nat×TypeId)=>match Ji k p.2 with
    |some l=>if l.length=P.cellsOf p.2 then some l else none|none=>none).map List.flatten else none
  |none=>if Jh P t=true/\P.cellsOf t=1 then some [t] else none
end
section
variable {P:Program}{w:World}{H:Type}{enc:TypeId×Value->H}{bk:DataW H->Nat}{bs:List (DataW H)->Nat}
abbrev mg (enc:TypeId×Value->H)(P:Program)(w:World)(f:Nat)(t:TypeId)(cs:List Value):Option (DataW H×List MemPlace):=DataW.trod enc P w 0 (fun _=>true) true f t cs
theorem ave {fuel:Nat}{t:TypeId}{cs:List Value}{d:DataW H}{ps:List MemPlace}{pl:List (Nat×TypeId)}(hp:Po P t=some pl)(h:mg enc P w (fuel+1) t cs=some (d,ps)):
 cs.length=P.cellsOf t/\∃xs,pl.mapM (fun p=>mg enc P w fuel p.2 ((cs.drop p.1).take (P.cellsOf p.2)))=some xs/\d= .agg (xs.map (·.1)):=by
 unfold Po at hp;split at hp
 ·rename_i fs hu
  simp only[iE] at hp;subst hp;simp only[mg,DataW.trod,hu] at h;split at h
  ·rename_i hl
   simp only[bf,mF] at h;obtain⟨xs,h1,rfl,rfl⟩:=h;refine⟨hl,xs,?_,rfl⟩;rw[List.mapM_map];exact h1
  ·cases h
 ·rename_i n e hu
  simp only[iE] at hp;subst hp;simp only[mg,DataW.trod,hu] at h;split at h
  ·rename_i hl
   simp only[bf,mF] at h;obtain⟨xs,h1,rfl,rfl⟩:=h;refine⟨hl,xs,?_,rfl⟩;rw[List.mapM_map];exact h1
  ·cases h
 ·cases hp
def abl (enc:TypeId×Value->H)(P:Program)(w:World)(fuel:Nat)(u:TypeId)(c:Value)(d:DataW H):Prop:=∃f p,f<=fuel/\mg enc P w f u [c]=some (d,p)/\Jh P u=true
theorem aiD {fuel:Nat}{t:TypeId}{cs:List Value}{x:DataW H×List MemPlace}(hl:Jh P t=true)(h:mg enc P w fuel t cs=some x):∃c,cs=[c]:=by
 cases fuel with
 |zero=>simp[mg,DataW.trod] at h|succ f=>unfold Jh at hl;split at hl;all_goals (rename_i hu;simp only[mg,DataW.trod,hu] at h;split at h<;>first|exact⟨_,rfl⟩|simp_all)
theorem avf (hb:Bulk H bk bs):∀(k fuel:Nat)(t:TypeId)(cs:List Value)(d:DataW H)(ps:List MemPlace)(ts:List TypeId),Ji P k t=some ts->mg enc P w fuel t cs=some (d,ps)->
 ∃ds,uD (abl enc P w fuel) ts cs ds/\bs ds<=bk d:=by
 intro k;induction k with
 |zero=>intro fuel t cs d ps ts h;simp[Ji] at h|succ k ih=>
  intro fuel t cs d ps ts h ht;simp only[Ji] at h;split at h
  ·rename_i pl hp
   split at h
   ·rename_i hcon
    cases fuel with
    |zero=>simp[mg,DataW.trod] at ht|succ fuel=>
     obtain⟨hl,xs,hx,rfl⟩:=ave hp ht;simp only[bf] at h;obtain⟨Jj,avg,rfl⟩:=h;have key:∀(pl:List (Nat×TypeId))(off:Nat)(xs:List (DataW H×List MemPlace))(Jj:List (List TypeId)),Pp P pl off cs.length=true->
      pl.mapM (fun p=>mg enc P w fuel p.2 ((cs.drop p.1).take (P.cellsOf p.2)))=some xs->
      (pl.mapM fun p=>match Ji P k p.2 with
        |some l=>if l.length=P.cellsOf p.2 then some l else none|none=>none)=some Jj->∃ds,uD (abl enc P w (fuel+1)) Jj.flatten (cs.drop off) ds/\bs ds<=bs (xs.map (·.1)):=by
      intro pl;induction pl with
      |nil=>intro off xs Jj hc h1 h2;simp only[List.mapM_nil,Option.pure_def,iE] at h1 h2;subst h1;subst h2;simp only[Pp,beq_iff_eq] at hc;rw[hc,List.drop_length];exact⟨[],trivial,iP _⟩|cons p pl avh=>
       intro off xs Jj hc h1 h2;obtain⟨o,u⟩:=p;simp only[Pp,aT,beq_iff_eq] at hc;obtain⟨rfl,hc⟩:=hc;simp only[j5,Option.bind_eq_bind,iR,Option.pure_def,iE] at h1 h2;obtain⟨⟨d1,p1⟩,g1,xs',g2,rfl⟩:=h1;obtain⟨l1,g3,aEG,g4,rfl⟩:=h2;split at g3
       ·rename_i l0 hl0
        split at g3
        ·cases g3
         obtain⟨ds1,a1,a2⟩:=ih _ _ _ _ _ _ hl0 g1;obtain⟨avi,a3,a4⟩:=avh _ _ _ hc g2 g4;refine⟨ds1++avi,?_,?_⟩
         ·rw[List.flatten_cons]
          have e:cs.drop o=(cs.drop o).take (P.cellsOf u)++cs.drop (o+P.cellsOf u):=(by rw[<-List.drop_drop,tq]);rw[e];exact uD.append (a1.mono fun _ _ _ ⟨f,q,h1,h2⟩=>⟨f,q,Nat.le_succ_of_le h1,h2⟩) a3
         ·rw[hb.append,fQ,hb.cons];show _<=bk d1+_;omega
        ·cases g3
       ·cases g3
     have:=key pl 0 xs Jj (by rw[hl];exact hcon) hx avg;obtain⟨ds,h1,h2⟩:=this;exact⟨ds,Cr,dJ h2 (hb.agg _)⟩
   ·cases h
  ·split at h
   ·rename_i hlf
    simp only[iE] at h;subst h;obtain⟨c,rfl⟩:=aiD hlf.1 ht;refine⟨[d],⟨⟨fuel,ps,iP _,ht,hlf.1⟩,trivial⟩,?_⟩;rw[hb.cons,hb.nil];omega
   ·cases h
def rA (K:aU)(T:Nat->Nat)(w:World)(vs:List V)(cs:List Value):Prop:=vs.length=cs.length/\∀j,j<vs.length->Rel K T w (vs.getD j aL) (cs.getD j undef)
theorem rA.cons {K:aU}{T:Nat->Nat}{v:V}{c:Value}{vs:List V}{cs:List Value}(h:Rel K T w v c)(hs:rA K T w vs cs):rA K T w (v::vs) (c::cs):=by
 refine⟨by simp[hs.1],fun j hj=>?_⟩;cases j with
 |zero=>exact h|succ j=>simpa using hs.2 j ql
variable (R:iI)
def om (P:Program)(t:TypeId):Ty->Bool
 |.int k=>match P.underlying t with
  |some (.int k')=>decide (k'=k)|_=>false
 |.bool=>match P.underlying t with
  |some .bool=>true|_=>false
 |.str=>match P.underlying t with
  |some .string=>true|_=>false
 |.slice τ=>match P.underlying t with
  |some (.slice e)=>decide (R.ty e=some τ)&& decide (0<P.cellsOf e)|_=>false
 |.st n=>match Ji P 10 t with
  |some ts=>decide (ts.map R.ty=(R.lf n).map some)&& (Po P t).isSome|none=>false
def allI (w:World)(b o:Nat):Prop:=∃v,w.cell? (at_ b o)=some v
abbrev rC (w:World):aU:=aU.lend (allI w) (r9 w)
theorem abm {α β:Type}{f:α->Option β}:∀{l:List α}{r:List β},l.mapM f=some r->r.length=l.length/\∀(i:Nat)(hi:i<l.length)(hr:i<r.length),f l[i]=some r[i]:=by
 intro l;induction l with
 |nil=>intro r h;simp at h;subst h;exact⟨rfl,fun i hi=>absurd hi (gL i)⟩
 |cons a l ih=>
  intro r h;simp only[j5,Option.bind_eq_bind,iR,Option.pure_def,iE] at h;obtain⟨y,h1,ys,h2,rfl⟩:=h;obtain⟨h3,h4⟩:=ih h2;refine⟨by simp[h3],fun i hi hr=>?_⟩;cases i with
  |zero=>exact h1|succ i=>exact h4 i jm (by simpa using hr)
theorem aiE {base:Nat}{a:Addr}{n:Nat}{cs:List Value}(h:w.cells? base a n=some cs):cs.length=n/\∀j,j<n->w.cell? (a.add j)=some (cs.getD j undef):=by
 unfold World.cells? at h;split at h
 ·obtain⟨h1,h2⟩:=abm h
  rw[List.length_range] at h1;refine⟨h1,fun j hj=>?_⟩;have:=h2 j ql ah;simp only[Na] at this;rw[this,rQ,jc ah];rfl
 ·cases h
theorem plain_of_cell {a:Addr}{v:Value}(h:w.cell? a=some v):a=at_ a.block a.off:=by
 unfold World.cell? at h;obtain⟨b,o,s⟩:=a;cases s with
 |none=>rfl|some s=>dsimp only at h;split at h<;>simp at h
theorem aiF (hb:Bulk H bk bs)(hR:qE R){T:Nat->Nat}{Q:TypeId->Value->DataW H->Prop}(hq:∀u c d τ,Q u c d->R.ty u=some τ->oZ τ=true->∃x:Den R.T τ,Rel (rC w) T w (aP R τ x) c/\kU (aP R τ x)<=bk d):
 ∀(l:List Ty)(ts:List TypeId)(cs:List Value)(ds:List (DataW H)),l.all oZ=true->ts.map R.ty=l.map some->uD Q ts cs ds->∃p:pV R.T l,rA (rC w) T w (encs R l p) cs/\rz (encs R l p)<=bs ds
 | [],ts,cs,ds,_,hm,h=>by
   have:ts=[]:=by simpa using hm
   subst this;cases cs with
   |nil=>cases ds with
    |nil=>exact⟨(),⟨rfl,fun j hj=>absurd hj (gL j)⟩,by rw[hb.nil];exact iP _⟩
    |cons=>exact h.elim
   |cons=>exact h.elim
 | [τ],ts,cs,ds,hl,hm,h=>by
   cases ts with
   |nil=>simp at hm|cons u ts=>
    simp only[fQ,List.map_nil,qO,List.map_eq_nil_iff] at hm;obtain⟨hu,rfl⟩:=hm;cases cs with
    |nil=>exact h.elim|cons c cs=>cases ds with
     |nil=>exact h.elim|cons d ds=>
      obtain⟨h1,h2⟩:=h;cases cs with
      |cons=>exact h2.elim|nil=>cases ds with
       |cons=>exact h2.elim|nil=>obtain⟨x,h3,h4⟩:=hq u c d τ h1 hu xI;refine⟨x,rA.cons h3 ⟨rfl,fun j hj=>absurd hj (gL j)⟩,?_⟩;rw[hb.cons,hb.nil];show kU _+0<=_;omega
 |τ::gq::l,ts,cs,ds,hl,hm,h=>by
  cases ts with
  |nil=>simp at hm|cons u ts=>
   rw[fQ,fQ] at hm;injection hm with hu hm
   cases cs with
   |nil=>exact h.elim|cons c cs=>cases ds with
    |nil=>exact h.elim|cons d ds=>obtain⟨h1,h2⟩:=h;rw[List.all_cons,aT] at hl;obtain⟨x,h3,h4⟩:=hq u c d τ h1 hu hl.1;obtain⟨p,h5,h6⟩:=aiF hb hR hq (gq::l) ts cs ds hl.2 hm h2;refine⟨(x,p),rA.cons h3 h5,?_⟩;rw[hb.cons];show kU (aP R τ x)+rz (encs R (gq::l) p)<=_;omega
theorem avj (τ:Ty)(hl:oZ τ=true)(x:Den R.T τ):(aP R τ x).cells=[aP R τ x]:=by
 cases τ with
 |st n=>simp[oZ] at hl|_=>rfl
theorem avk (hb:Bulk H bk bs)(hR:qE R){T:Nat->Nat}(hty:∀t τ,R.ty t=some τ->om R P t τ=true):∀(fuel:Nat)(t:TypeId)(cs:List Value)(d:DataW H)(ps:List MemPlace)(τ:Ty),R.ty t=some τ->mg enc P w fuel t cs=some (d,ps)->
 ∃x:Den R.T τ,rA (rC w) T w (aP R τ x).cells cs/\kU (aP R τ x)<=bk d:=by
 intro fuel;induction fuel using Nat.strongRecOn with
 |_ fuel ih=>
  have leaf:∀f,f<=fuel->∀u c d p τ,oZ τ=true->R.ty u=some τ->mg enc P w f u [c]=some (d,p)->∃x:Den R.T τ,Rel (rC w) T w (aP R τ x) c/\kU (aP R τ x)<=bk d:=by
   intro f hf u c d p τ hl hu h;cases f with
   |zero=>simp[mg,DataW.trod] at h|succ f=>
    have ho:=hty u τ hu;cases τ with
    |st n=>simp[oZ] at hl|int k=>
     simp only[om] at ho;split at ho
     ·rename_i k' hk
      have:=of_decide_eq_true ho;subst this;cases c with
      |int k2 n=>
       simp only[mg,DataW.trod,hk] at h;split at h
       ·rename_i hkk
        obtain⟨rfl,hwf⟩:=hkk;simp only[iE,mF] at h;obtain⟨rfl,rfl⟩:=h;exact⟨(n:Int),.int _ _,by show 1+abj _ _<=_;rw[avd hwf];exact hb.one _⟩
       ·cases h
      |_=>simp only[mg,DataW.trod,hk] at h;cases h
     ·cases ho
    |bool=>
     simp only[om] at ho;split at ho
     ·rename_i hk
      cases c with
      |bool b=>exact⟨(b:Bool),.bool _,hb.one _⟩|_=>simp only[mg,DataW.trod,hk] at h;cases h
     ·cases ho
    |str=>
     simp only[om] at ho;split at ho
     ·rename_i hk
      cases c with
      |string b=>
       simp only[mg,DataW.trod,hk] at h;split at h
       ·simp only[iE,mF] at h
        obtain⟨rfl,rfl⟩:=h;exact⟨b.data.toList,.str _ _ rfl,hb.str _⟩
       ·cases h
      |_=>simp only[mg,DataW.trod,hk] at h;cases h
     ·cases ho
    |slice τ=>
     simp only[om] at ho;split at ho
     ·rename_i e hk
      rw[aT] at ho;have he:=of_decide_eq_true ho.1;have hpos:=of_decide_eq_true ho.2;cases c with
      |slice a len cap=>
       cases a with
       |none=>
        cases len with
        |succ n=>simp only[mg,DataW.trod,hk] at h;cases h|zero=>cases cap with
         |succ n=>simp only[mg,DataW.trod,hk] at h;cases h|zero=>exact⟨([]:List (Den R.T τ)),.eP .sh none (fun _=>rfl) trivial,hb.one _⟩
       |some a=>
        simp only[mg,DataW.trod,hk] at h;split at h
        ·rename_i hc
         obtain⟨_,hlc,_⟩:=hc;simp only[iR,if_true,bf,mF] at h;obtain⟨elems,h1,rest,h2,rfl,rfl⟩:=h;obtain⟨e1,e2⟩:=abm h1;obtain⟨r1,r2⟩:=abm h2;rw[List.length_range] at e1 r1;have hplain:0<cap->a=at_ a.block a.off:=fun hcap=>by
          have hread:∃i cs x,w.cells? 0 (a.add (i*P.cellsOf e)) (P.cellsOf e)=some cs/\mg enc P w f e cs=some x/\i=0:=by
           by_cases hl0:0<len
           ·have:=e2 0 (by simpa using hl0) ah
            simp only[Na,iR] at this;obtain⟨cs,g1,g2⟩:=this;exact⟨0,cs,_,g1,g2,rfl⟩
           ·have:=r2 0 eY ah
            simp only[Na,iR] at this;obtain⟨cs,g1,g2⟩:=this;exact⟨len+0,cs,_,g1,g2,ah⟩
          obtain⟨i,cs,_,g1,_,rfl⟩:=hread;have:=(aiE g1).2 0 hpos;have ha:(a.add (0*P.cellsOf e)).add 0=a:=(by simp[Addr.add]);rw[ha] at this;exact plain_of_cell this
         have hel:∀i,∃x:Den R.T τ,∃Jk:List Value,∀hi:i<elems.length,(∀j,j<P.cellsOf e->w.cell? ((a.add (i*P.cellsOf e)).add j)=some (Jk.getD j undef))/\Jk.length=P.cellsOf e/\
          rA (rC w) T w (aP R τ x).cells Jk/\kU (aP R τ x)<=bk elems[i].1:=fun i=>by
          by_cases hi:i<elems.length
          ·have:=e2 i (by simpa using (by omega:i<len)) hi
           simp only[Na,iR] at this;obtain⟨Jk,g1,g2⟩:=this;obtain⟨c1,c2⟩:=aiE g1;obtain⟨x,x1,x2⟩:=ih f ah e Jk elems[i].1 elems[i].2 τ he g2;exact⟨x,Jk,fun _=>⟨c2,c1,x1,x2⟩⟩
          ·exact⟨Ib R τ,[],fun h=>absurd h hi⟩
         let xs:List (Den R.T τ):=(List.range elems.length).map fun i=>(hel i).choose
         have hxs:∀i (hi:i<xs.length) (hi':i<elems.length),(∀j,j<P.cellsOf e->w.cell? ((a.add (i*P.cellsOf e)).add j)=some ((hel i).choose_spec.choose.getD j undef))/\(hel i).choose_spec.choose.length=P.cellsOf e/\
          rA (rC w) T w (aP R τ xs[i]).cells (hel i).choose_spec.choose/\kU (aP R τ xs[i])<=bk elems[i].1:=fun i hi hi'=>by
          have:=(hel i).choose_spec.choose_spec hi';have e:xs[i]=(hel i).choose:=(by simp[xs]);rw[e];exact this
         have hxl:xs.length=len:=(by simp[xs,e1]);refine⟨(xs:List (Den R.T τ)),?_,?_⟩
         ·show Rel _ _ _ (.ay .sh (xs.map (aP R τ))) (.slice (some a) len cap)
          by_cases hcap:0<cap
          ·obtain⟨b,o,s⟩:=a
           have hs:s=none:=(by have:=hplain hcap;simp only[at_,Addr.mk.injEq] at this;exact this.2.2);subst hs;have key:Rel (rC w) T w (.ay .sh (xs.map (aP R τ))) (.slice (some (at_ b o)) (xs.map (aP R τ)).length cap):=by
            refine .ay .sh _ b o (P.cellsOf e) cap (fun i j=>if hi:i<elems.length then (hel i).choose_spec.choose.getD j undef else undef) (by rw[iG,hxl];exact hlc) (fun i hi=>?_) (fun i j hi hj=>?_) (fun i j hi hj=>?_) trivial;all_goals
             rw[iG] at hi;have hi':i<elems.length:=ah;obtain⟨y1,y2,y3,y4⟩:=hxs i hi hi';have hg:(xs.map (aP R τ)).getD i aL=aP R τ xs[i]:=by simp[List.getD,hi]
            ·rw[hg];exact y3.1.trans y2
            ·rw[dif_pos hi']
             have hadd:at_ b (o+i*P.cellsOf e+j)=((⟨b,o,none⟩:Addr).add (i*P.cellsOf e)).add j:=(by rw[show (⟨b,o,none⟩:Addr)=at_ b o from rfl,addr_add,addr_add]);have this:=(congrArg w.cell? hadd).trans (y1 j hj);exact⟨this,_,this⟩
            ·rw[hg,dif_pos hi']
             exact y3.2 j (by rw[y3.1,y2];exact hj)
           rw[iG,hxl] at key;exact key
          ·have h0:len=0:=ah
           have h0':cap=0:=ah;subst h0;subst h0';have:xs=[]:=mh hxl;rw[this];exact .eP .sh (some a) (fun h=>bL) trivial
         ·show rz (xs.map (aP R τ))+1<=_
          refine dJ (Nat.succ_le_succ ?_) (hb.sl _ _);have avl:∀(l:List (Den R.T τ))(m:List (DataW H×List MemPlace)),l.length=m.length->(∀i (hi:i<l.length) (hi':i<m.length),kU (aP R τ l[i])<=bk m[i].1)->rz (l.map (aP R τ))<=bs (m.map (·.1)):=by
           intro l;induction l with
           |nil=>intro m _ _;exact nI _|cons x l ihl=>
            intro m hm hle;cases m with
            |nil=>simp at hm|cons y m=>rw[fQ,fQ,hb.cons];have h0:=hle 0 aD aD;have h1:=ihl m (by simpa using hm) (fun i hi hi'=>hle (i+1) jm (by simpa using hi'));simp only[List.getElem_cons_zero] at h0;show kU _+rz _<=_;omega
          exact avl xs elems (by rw[hxl,e1]) fun i hi hi'=>(hxs i hi hi').2.2.2
        ·cases h
      |_=>simp only[mg,DataW.trod,hk] at h;cases h
     ·cases ho
  have ho:=hty;intro t cs d ps τ ht h;cases τ with
  |st n=>
   have ho:=hty t _ ht;simp only[om] at ho;split at ho
   ·rename_i ts hts
    rw[aT] at ho;have hm:=of_decide_eq_true ho.1;obtain⟨ds,h1,h2⟩:=avf hb _ _ _ _ _ _ _ hts h;obtain⟨p,h3,h4⟩:=aiF R hb hR (Q:=abl enc P w fuel) (T:=T) (fun u c d τ hq hu hl=>by obtain⟨f,q,hf,hq,_⟩:=hq;exact leaf f hf u c d q τ hl hu hq) (R.lf n) ts cs ds (hR.leaf n) hm h1;refine⟨R.to n p,?_,?_⟩
    ·show rA _ _ _ (R.enc n (R.to n p)).cells cs
     rw[hR.enc,hR.OH];exact h3
    ·show kU (R.enc n (R.to n p))<=_
     rw[hR.enc,hR.OH];exact dJ h4 h2
   ·cases ho
  |_=>
   have hl:Jh P t=true:=by
    have ho:=hty t _ ht;simp only[om] at ho;split at ho
    ·rename_i hu;simp[Jh,hu]
    ·cases ho
   obtain⟨c,rfl⟩:=aiD hl h;obtain⟨x,h1,h2⟩:=leaf fuel (iP _) t c d ps _ rfl ht h;refine⟨x,?_,h2⟩;rw[avj R _ rfl];exact rA.cons h1 ⟨rfl,fun j hj=>absurd hj (gL j)⟩
end
end aR
end
section
namespace aR
open Go Go.RowKit Go.ChangeShapes Go.WideShapes
section
variable {P:Program}{w:World}{H:Type}{enc:TypeId×Value->H}{bk:DataW H->Nat}{bs:List (DataW H)->Nat}(R:iI)
theorem aiG (hb:Bulk H bk bs)(hR:qE R){T:Nat->Nat}(hty:∀t τ,R.ty t=some τ->om R P t τ=true){t:TypeId}{v:Value}{d:DataW H}{ps:List MemPlace}{τ:Ty}(ht:R.ty t=some τ){r:Reach}{base:Nat}(hok:Value.okWide P w r base t v)(h:DataW.Trod enc P w 0 (fun _=>true) true t v d ps):∃x:Den R.T τ,Rel (rC w) T w (aP R τ x) v/\kU (aP R τ x)<=bk d:=by
 obtain⟨fuel,h⟩:=h;obtain⟨x,h1,h2⟩:=avk R hb hR (T:=T) hty fuel t _ d ps τ ht h;refine⟨x,?_,h2⟩;have ho:=hty t τ ht;have one:∀c,v=c->c.cells= #[c]->(aP R τ x).cells=[aP R τ x]->Rel (rC w) T w (aP R τ x) v:=by intro c hv hc he;subst hv;rw[hc,he] at h1;exact h1.2 0 aD
 cases τ with
 |int k=>
  simp only[om] at ho;split at ho
  ·rename_i k' hu
   obtain⟨n,rfl⟩:=okWide_int hu hok;exact one _ rfl rfl rfl
  ·cases ho
 |bool=>
  simp only[om] at ho;split at ho
  ·rename_i hu
   obtain⟨n,rfl⟩:=okWide_bool hu hok;exact one _ rfl rfl rfl
  ·cases ho
 |str=>
  simp only[om] at ho;split at ho
  ·rename_i hu
   obtain⟨n,rfl⟩:=okWide_string hu hok;exact one _ rfl rfl rfl
  ·cases ho
 |slice τ=>
  simp only[om] at ho;split at ho
  ·rename_i e hu
   obtain⟨a,l,c,rfl⟩:=okWide_slice hu hok;exact one _ rfl rfl rfl
  ·cases ho
 |st n=>
  simp only[om] at ho;split at ho
  ·rename_i ts hts
   rw[aT] at ho;have hagg:∃cs,v= .agg cs:=by
    have hs:=ho.2;unfold Po at hs;unfold Value.okWide at hok;split at hs
    ·rename_i fs hu
     rw[hu] at hok;exact⟨_,hok.choose_spec.1⟩
    ·rename_i m e hu
     rw[hu] at hok;exact⟨_,hok.choose_spec.1⟩
    ·cases hs
   obtain⟨cs,rfl⟩:=hagg;have he:aP R (.st n) x= .agg (encs R (R.lf n) (R.of n x)):=hR.enc n x;rw[he] at h1⊢;obtain⟨h3,h4⟩:=h1;have h3':(encs R (R.lf n) (R.of n x)).length=cs.toList.length:=h3;refine .agg _ cs (by simpa using h3') (fun i hi=>?_);have h5:Rel (rC w) T w ((encs R (R.lf n) (R.of n x)).getD i aL) (cs.toList.getD i undef):=h4 i hi;simpa [rQ,zu] using h5
  ·cases ho
theorem aiH (hb:Bulk H bk bs)(hR:qE R){T:Nat->Nat}(hty:∀t τ,R.ty t=some τ->om R P t τ=true){r:Reach}{base:Nat}:∀(l:List Ty)(ts:List TypeId)(vs:List Value)(ds:List (DataW H))(ps:List MemPlace),ts.map R.ty=l.map some->(∀(j:Nat) t v,ts[j]? =some t->vs[j]? =some v->Value.okWide P w r base t v)->DataW.TrodAll enc P w 0 (fun _=>true) true ts vs ds ps->
 ∃p:av R.T (l.map aC.d),rA (rC w) T w (aF R (l.map aC.d) p) vs/\rz (aF R (l.map aC.d) p)<=bs ds
 | [],ts,vs,ds,ps,hm,hok,h=>by
   have:ts=[]:=by simpa using hm
   subst this;obtain⟨rfl,rfl,rfl⟩:=trodAll_nil h;exact⟨(),⟨rfl,fun j hj=>absurd hj (gL j)⟩,by rw[hb.nil];exact iP _⟩
 | [τ],ts,vs,ds,ps,hm,hok,h=>by
   cases ts with
   |nil=>simp at hm|cons u ts=>simp only[fQ,List.map_nil,qO,List.map_eq_nil_iff] at hm;obtain⟨hu,rfl⟩:=hm;obtain⟨v0,vs0,d0,ds0,p0,q0,rfl,rfl,rfl,h0,r0⟩:=trodAll_cons h;obtain⟨rfl,rfl,rfl⟩:=trodAll_nil r0;obtain⟨x,h3,h4⟩:=aiG R hb hR (T:=T) hty hu (hok 0 u v0 rfl rfl) h0;refine⟨x,rA.cons h3 ⟨rfl,fun j hj=>absurd hj (gL j)⟩,?_⟩;rw[hb.cons,hb.nil];show kU (aP R τ x)+0<=_;omega
 |τ::gq::l,ts,vs,ds,ps,hm,hok,h=>by
  cases ts with
  |nil=>simp at hm|cons u ts=>
   rw[fQ,fQ] at hm;injection hm with hu hm
   obtain⟨v0,vs0,d0,ds0,p0,q0,rfl,rfl,rfl,h0,r0⟩:=trodAll_cons h;obtain⟨x,h3,h4⟩:=aiG R hb hR (T:=T) hty hu (hok 0 u v0 rfl rfl) h0;obtain⟨p,h5,h6⟩:=aiH hb hR hty (gq::l) ts vs0 ds0 q0 hm (fun j t v h1 h2=>hok (j+1) t v h1 h2) r0;refine⟨(x,p),rA.cons h3 h5,?_⟩;rw[hb.cons];show kU (aP R τ x)+rz (aF R ((gq::l).map aC.d) p)<=_;omega
theorem avm {K:aU}{T:Nat->Nat}{vs:List V}{args:Array Value}(h:rA K T w vs args.toList):RelA K T w vs args:=by refine⟨by simpa using h.1,fun i hi=>?_⟩;have:=h.2 i hi;simpa [rQ,zu] using this
end
section
variable {P:Program}{H:Type}{enc:TypeId×Value->H}
theorem aiI {FI:TypeId->Prop}(K:Kids P FI)(hsz:∀{t e:TypeId},FI t->P.underlying t=some (.slice e)->0<P.cellsOf e){W W':World}(hbel:Below W.heap.size W W'){sp:Nat->Bool}:
 ∀{ts:List TypeId}{vs:List Value}{ds:List (DataW H)}{ps:List MemPlace},(∀t∈ts,FI t)->DataW.TrodAll enc P W 0 (fun _=>true) true ts vs ds ps->(∀p∈ps,p.block<W.heap.size)->(∀p∈ps,sp p.block=true)->DataW.TrodAll enc P W' 0 sp true ts vs ds ps
 | [],[],[],_,_,h,_,_=>h|_::_,_::_,_::_,_,hT,⟨p,q,⟨n,h1⟩,h2,e⟩,hlt,hs=>by subst e;refine⟨p,q,⟨n,?_⟩,aiI K hsz hbel (fun t ht=>hT t (iZ _ ht)) h2 (fun x hx=>hlt x (wm _ hx)) (fun x hx=>hs x (wm _ hx)),rfl⟩;exact DataW.trod_stays K hsz (fun h=>bL) (hT _ aD) h1 (fun x hx=>hbel.kit.same (hlt x (uL _ hx))) (fun x hx=>hs x (uL _ hx))
 | [],_::_,_,_,_,h,_,_=>h.elim| [],[],_::_,_,_,h,_,_=>h.elim|_::_,[],_,_,_,h,_,_=>h.elim|_::_,_::_,[],_,_,h,_,_=>h.elim
theorem avn {f:Func}{s:ChangeSpec}{apart fresh handsOn again:Bool}{W W':World}{args:Array Value}{v:Value}{ds gs:List (DataW H)}{before pa pv:List MemPlace}(hW:DataW.Whole enc P f.params.toList s.vars apart W args.toList ds gs before)(hres:∀(b:Nat) (sp:Nat->Bool) (hd:Bool),DataW.TrodAll enc P W' b sp hd f.resultTypes.toList (v.resultList f.resultTypes.size) (s.fn H (ds++gs)).results [])(hargs:∀sp:Nat->Bool,(∀p∈before,sp p.block=true)->DataW.TrodAll enc P W' 0 sp true f.params.toList args.toList (s.fn H (ds++gs)).args pa)(hvars:∀sp:Nat->Bool,(∀p∈before,sp p.block=true)->DataW.TrodVars enc P W' sp s.vars (s.fn H (ds++gs)).vars pv)(hps:before=pa++pv)(hbel:Below W.heap.size W W')(hok:∀(j:Nat) (t:TypeId) (r:Value),f.resultTypes[j]? =some t->(v.resultList f.resultTypes.size)[j]? =some r->Value.okWide P W' .any 0 t r):
 s.post enc P f apart fresh handsOn again W args v W':=by
 have hlt:∀p∈before,p.block<W.heap.size:=hW.lt;have hold:∀p∈before,(fun b=>decide (b<W.heap.size)) p.block=true:=fun p hp=>by simpa using hlt p hp
 refine⟨ds,gs,before,[],pa,pv,hW,hres _ _ _,hargs _ hold,hvars _ hold,World.keptBut_mono (fun p hp=>⟨hp,?_⟩) (hbel.kit.frame (· ∈before)),fun _=>?_⟩
 ·rw[hps,nG] at hp
  exact Or.inr hp
 ·obtain⟨_,_,_,_,_,hz,hn⟩:=hW
  refine⟨hok,_,_,([]++pa)++pv,⟨[]++pa,pv,trodAll_append (hargs _ (fun _ _=>rfl)) (hres _ _ _),hvars _ (fun _ _=>rfl),rfl,?_,?_⟩,?_⟩
  ·intro b off hp
   have hp':MemPlace.cell b off∈before:=by rw[hps];simpa using hp
   rw[hbel.kit.frozen (p:=⟨b,off,none⟩) (hlt _ hp')];exact hz b off hp'
  ·intro ha
   have:=hn ha;rw[hps] at this;simpa using this
  ·intro p hp _
   rw[hps];simpa using hp
end
section
variable {P:Program}{w:World}(R:iI)
def abn:(τ:Ty)->Den R.T τ->Prop
 |.int k,x=>k.has (show Int from x)|_,_=>True
def Wz:(l:List Ty)->av R.T (l.map aC.d)->Prop
 | [],_=>True| [τ],x=>abn R τ x|τ::gq::l,p=>abn R τ p.1/\Wz (gq::l) p.2
theorem aiJ (hty:∀t τ,R.ty t=some τ->om R P t τ=true){T:Nat->Nat}{t:TypeId}{v:Value}{τ:Ty}(ht:R.ty t=some τ){r:Reach}{base:Nat}(hok:Value.okWide P w r base t v){x:Den R.T τ}(h:Rel (rC w) T w (aP R τ x) v):abn R τ x:=by
 have ho:=hty t τ ht;cases τ with
 |int k=>
  simp only[om] at ho;split at ho
  ·rename_i k' hu
   have hk:k'=k:=of_decide_eq_true ho;subst hk;have h':Rel (rC w) T w (.int k' x) v:=h;cases h';unfold Value.okWide at hok;rw[hu] at hok;have h2:Cell.ok P w r base t (.int k' x):=by unfold Cell.okWide at hok;rw[hu] at hok;exact hok
   unfold Cell.ok at h2;rw[hu] at h2;exact h2.2
  ·cases ho
 |bool=>trivial|str=>trivial|slice τ=>trivial|st n=>trivial
theorem aiK (hty:∀t τ,R.ty t=some τ->om R P t τ=true){T:Nat->Nat}{r:Reach}{base:Nat}:∀(l:List Ty)(ts:List TypeId)(vs:List Value)(p:av R.T (l.map aC.d)),ts.map R.ty=l.map some->(∀(j:Nat) t v,ts[j]? =some t->vs[j]? =some v->Value.okWide P w r base t v)->rA (rC w) T w (aF R (l.map aC.d) p) vs->Wz R l p
 | [],ts,vs,p,hm,hok,h=>trivial| [τ],ts,vs,x,hm,hok,h=>by
   obtain⟨h1,h2⟩:=h;cases ts with
   |nil=>simp at hm|cons u ts=>
    simp only[fQ,List.map_nil,qO,List.map_eq_nil_iff] at hm;obtain⟨hu,rfl⟩:=hm;cases vs with
    |nil=>cases h1|cons v vs=>exact aiJ R hty hu (hok 0 u v rfl rfl) (h2 0 (Nat.zero_lt_one))
 |τ::gq::l,ts,vs,p,hm,hok,h=>by
  obtain⟨h1,h2⟩:=h;cases ts with
  |nil=>simp at hm|cons u ts=>
   rw[fQ,fQ] at hm;injection hm with hu hm
   cases vs with
   |nil=>cases h1|cons v vs=>
    refine⟨aiJ R hty hu (hok 0 u v rfl rfl) (h2 0 (Nat.zero_lt_succ _)),aiK hty (T:=T) (gq::l) ts vs p.2 hm (fun j t v h1 h2=>hok (j+1) t v h1 h2) ⟨?_,fun j hj=>?_⟩⟩
    ·exact Nat.succ.inj h1
    ·exact h2 (j+1) (Nat.succ_lt_succ hj)
end
theorem avo {E:Env}{R:iI}{H:Type}{enc:TypeId×Value->H}{bk:DataW H->Nat}{bs:List (DataW H)->Nat}(hb:Bulk H bk bs)(hR:qE R)(hty:∀t τ,R.ty t=some τ->om R E.P t τ=true){FI:TypeId->Prop}(K:Kids E.P FI)(hsz:∀{t e:TypeId},FI t->E.P.underlying t=some (.slice e)->0<E.P.cellsOf e){f:FuncId}{fn:Func}{s:ChangeSpec}{apart fresh handsOn again:Bool}{W:World}{base:Nat}{args:Array Value}{ds gs:List (DataW H)}{before:List MemPlace}{l:List Ty}(hl:fn.params.toList.map R.ty=l.map some)(hT:∀t∈fn.params.toList,FI t)(hvars:s.vars=[])(hspec:s.fn H ds={results:=[.lit (.bool true)],args:=ds}){tb:TypeId}(hres:fn.resultTypes= #[tb])(abo:E.P.underlying tb=some .bool)(hval:∀(j:Nat) t v,fn.params[j]? =some t->args[j]? =some v->Value.okWide E.P W .any base t v)(hW:DataW.Whole enc E.P fn.params.toList s.vars apart W args.toList ds gs before)(avp:∀g cs,E.glob g=some cs->Rel (rC W) (fun _=>0) W (.aY cs 0) (.pointer (some (at_ g 0))))(avq:∀p:av R.T (l.map aC.d),rz (aF R (l.map aC.d) p)<=bs ds->Wz R l p->oK E f (aF R (l.map aC.d) p) (.bool true)):
 Calls E.P f args W fun e W'=>∃v,e= .returned v/\s.post enc E.P fn apart fresh handsOn again W args v W':=by
 have hW':=hW;obtain⟨p,q,hA,hV,hpq,_,_⟩:=hW;rw[hvars] at hV;obtain⟨rfl,rfl⟩:=trodVars_none hV;rw[nV] at hpq;subst hpq;obtain⟨x,h1,h2⟩:=aiH R hb hR (T:=fun _=>0) hty (r:=.any) (base:=base) l fn.params.toList args.toList ds _ hl (fun j t v h1 h2=>hval j t v Cr pq) hA;obtain⟨_,hcall⟩:=avq x h2 (aiK R hty l fn.params.toList args.toList x hl (fun j t v h1 h2=>hval j t v Cr pq) h1);have hc:=callsIn_wide.1 (hcall (allI W) _ W args ⟨fun b o h=>h,fun b h=>h,avp⟩ (avm h1));refine hc.mono fun e W' he=>?_;cases e with
 |returned c=>
  obtain⟨hbel,hrel⟩:=he;cases hrel;have hlt:∀p∈before,p.block<W.heap.size:=hW'.lt;refine⟨_,rfl,avn (pa:=before) (pv:=[]) hW' (fun b sp hd=>?_) (fun sp hs=>?_) (fun sp hs=>?_) aD hbel ?_⟩
  ·rw[nV,hspec,hres]
   exact trodAll_mk1 ⟨1,by simp[DataW.trod,abo,Value.cells]⟩
  ·rw[nV,hspec]
   exact aiI K hsz hbel hT hA hlt hs
  ·rw[nV,hspec,hvars];exact rfl
  ·exact ok_one hres rfl (by unfold Value.okWide;rw[abo];simp[Cell.okWide,Cell.ok,abo])
 |panicked ch=>exact he.elim|outgrown=>exact he.elim
end aR
end
