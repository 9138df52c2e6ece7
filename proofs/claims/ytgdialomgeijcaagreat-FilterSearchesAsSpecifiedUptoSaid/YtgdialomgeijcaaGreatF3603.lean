import Derived.ControlIn
import Derived.RangeFuncRecord
import Derived.Scope
import Derived.Test.YtgdialomgeijcaaGreatF3602
set_option linter.all false
section
open Go
namespace Aq
section
variable {F:Fence}{n:Nat}{P:Program}{Q:Exit->Act->World->Prop}{b:Frame}{k:List Item}{cs:List Frame}{a:Act}{w:World}
theorem kZ {c:Code}:step P (lone (b.atR a (.code (.scope c)::k)) cs w)= .next (lone (b.atR a (.code c:: .inScope c::k)) cs w):=
 step_lone_go (by simp[stepG,stepG.exec,Frame.atR])
theorem G8 {c:Code}:step P (lone (b.atR a (.inScope c::k)) cs w)= .next (lone (b.atR a k) cs w):=
 step_lone_go (by simp[stepG,stepG.exec,Frame.atR])
theorem G9 {c:Code}(h:c.wpIn F n P (Exit.noGoto Q) a w):(Code.scope c).wpIn F n P Q a w:=by
 intro b k cs hro hb hr;have h0:(lone (b.atR a (.code (.scope c)::k)) cs w).fenced P F:=fenced_calm hb hr rfl;obtain⟨e,a₁,w₁,hq,harr⟩:=h b (.inScope c::k) cs hro hb hr;cases e with
 |normal=>exact⟨.normal,a₁,w₁,hq,.head h0 kZ (StepsIn.trans harr (.one (fenced_calm hb hr rfl) G8))⟩|exit id'=>
  have hx:exitTo id' (.inScope c::k)=exitTo id' k:=by simp[exitTo]
  exact⟨.exit id',a₁,w₁,hq,fun k' hk=>.head h0 kZ (harr.1 k' (by rw[hx];exact hk)),
   fun hr' hk=>let ⟨k₁,h1,h2⟩:=harr.2 hr' (by rw[hx];exact hk);⟨k₁,h1,.head h0 kZ h2⟩⟩
 |goto l=>exact hq.elim|ret=>exact⟨_,a₁,w₁,hq,.of_steps (.one h0 kZ) harr⟩|panic ch=>exact⟨_,a₁,w₁,hq,.of_steps (.one h0 kZ) harr⟩|outgrown=>exact⟨_,a₁,w₁,hq,.of_steps (.one h0 kZ) harr⟩
end
end Aq
end
section
namespace Aq
open Go Go.RowKit
section
variable {E:Env}{B0:Nat}{Y:qd}{K:Ra}{w:World}{fr:Fr}{a:Act}{n:Nat}{ds:iF}
def dJ (E:Env)(c:Code)(fr:Fr)(Y:qd)(e:Ex)(fr':Fr)(Y':qd):Prop:=
 Y.next<=Y'.next/\∀ro B0 K w a n ds,St E B0 Y K w fr a n ds->aK n c=true->(ro=none/\ds.nm=false\/bq c=true)->c.wpIn (FW ro) 0 E.P (jA E B0 n ds Y K w e fr' Y') a w
theorem He:dJ E .skip fr Y .normal fr Y:=
 ⟨mF _,fun _ _ K _ _ _ _ h _ _=>wpIn_skip ⟨trivial,K,h,.refl h.ok⟩⟩
theorem Hf (id:Nat):dJ E (.exit id) fr Y (.exit id) fr Y:=
 ⟨mF _,fun _ _ K _ _ _ _ h _ _=>wpIn_exit ⟨rfl,K,h,.refl h.ok⟩⟩
theorem Hg:dJ E .ret fr Y .ret fr Y:=
 ⟨mF _,fun _ _ K _ _ _ _ h _ _=>wpIn_ret ⟨trivial,K,h,.refl h.ok⟩⟩
theorem Hl (l:Nat):dJ E (.label l) fr Y .normal fr Y:=
 ⟨mF _,fun _ _ K _ _ _ _ h _ _=>wpIn_label ⟨trivial,K,h,.refl h.ok⟩⟩
theorem Ho {c:Code}{e:Ex}{Rb:Fr}{Y1:qd}(h:dJ E c fr Y e Rb Y1):dJ E (.scope c) fr Y e Rb Y1:=by
 refine⟨h.1,fun ro B0 K w a n ds hs hok hnr=>G9 (wpIn_mono (h.2 ro B0 K w a n ds hs hok hnr) ?_)⟩;rintro x a1 w1 ⟨hx,hr⟩;cases x with
 |goto l=>cases e<;>simp only[bX] at hx|_=>exact⟨hx,hr⟩
theorem jA.widen {Y1 Y2:qd}{K1:Ra}{w1:World}{e:Ex}{fr':Fr}(h:Step E B0 (newer Y Y1) Y K w Y1 K1 w1)(h1:Y.next<=Y1.next)(h2:Y1.next<=Y2.next):
 ∀x a' w',jA E B0 n ds Y1 K1 w1 e fr' Y2 x a' w'->jA E B0 n ds Y K w e fr' Y2 x a' w':=by
 rintro x a' w' ⟨g1,K2,g2,g3⟩;exact⟨g1,K2,g2,h.widen g3 h1 h2⟩
theorem Hq {c d:Code}{e:Ex}{Rb RX:Fr}{Y1 Y2:qd}(h:dJ E c fr Y .normal Rb Y1)(g:dJ E d Rb Y1 e RX Y2):dJ E (.seq c d) fr Y e RX Y2:=by refine⟨PD h.1 g.1,fun ro B0 K w a n ds hs hok hnr=>?_⟩;simp only[aK,Pz] at hok;simp only[bq,Pz] at hnr;refine wpIn_seq (wpIn_mono (h.2 ro B0 K w a n ds hs hok.1 (hnr.imp id And.left)) ?_);rintro x a1 w1 ⟨hx,K1,s1,st1⟩;cases x<;>simp only[bX] at hx;exact wpIn_mono (g.2 ro B0 K1 w1 a1 n ds s1 hok.2 (hnr.imp id And.right)) (jA.widen st1 h.1 g.1)
theorem zV {c d:Code}{e:Ex}{Rb:Fr}{Y1:qd}(he:e≠ .normal)(h:dJ E c fr Y e Rb Y1):dJ E (.seq c d) fr Y e Rb Y1:=by
 refine⟨h.1,fun ro B0 K w a n ds hs hok hnr=>?_⟩;simp only[aK,Pz] at hok;simp only[bq,Pz] at hnr;refine wpIn_seq (wpIn_mono (h.2 ro B0 K w a n ds hs hok.1 (hnr.imp id And.left)) ?_);rintro x a1 w1 ⟨hx,K1,s1,st1⟩;cases e<;>cases x<;>simp only[bX] at hx
 .exact absurd rfl he
 .exact⟨hx,K1,s1,st1⟩
 .exact⟨hx,K1,s1,st1⟩
theorem Hr {c:Operand}{x y:Code}{t:Bool}{e:Ex}{Rb:Fr}{Y1:qd}(hc:dI (fr.ev E c)=some t)(h:dJ E (if t then x else y) fr Y e Rb Y1):dJ E (.cond c x y) fr Y e Rb Y1:=by
 refine⟨h.1,fun ro B0 K w a n ds hs hok hnr=>?_⟩;simp only[aK,Pz] at hok;simp only[bq,Pz] at hnr;refine wpIn_cond (uO (fV hs.ok hs.fr c) hc) (h.2 ro B0 K w a n ds hs ?_ ?_)
 .cases t
  .exact hok.2
  .exact hok.1
 .cases t
  .exact hnr.imp id And.right
  .exact hnr.imp id And.left
def uR (id:Nat):Ex->Ex
 |.exit i=>if i=id then .normal else .exit i|e=>e
theorem Ht {id:Nat}{c:Code}{e:Ex}{Rb:Fr}{Y1:qd}(h:dJ E c fr Y e Rb Y1):dJ E (.block id c) fr Y (uR id e) Rb Y1:=by
 refine⟨h.1,fun ro B0 K w a n ds hs hok hnr=>wpIn_block (wpIn_mono (h.2 ro B0 K w a n ds hs hok hnr) ?_)⟩;rintro x a1 w1 ⟨hx,K1,s1,st1⟩;cases e with
 |normal=>cases x<;>simp only[bX] at hx;exact⟨trivial,K1,s1,st1⟩|ret=>cases x<;>simp only[bX] at hx;exact⟨trivial,K1,s1,st1⟩|exit i=>
  cases x<;>simp only[bX] at hx;subst hx;simp only[Exit.inBlock,uR];split
  .exact⟨trivial,K1,s1,st1⟩
  .exact⟨rfl,K1,s1,st1⟩
end
section
variable {E:Env}{B0:Nat}{Y Y':qd}{K K':Ra}{w w':World}{fr:Fr}{a:Act}{n:Nat}{ds:iF}
theorem bH.put {T:Nat->Nat}(h:bH K T w fr a.tmps){d:Option Nat}{v:V}{c:Value}(hr:Rel K T w v c)(hd:∀i,d=some i->i<a.tmps.size):bH K T w (fr.put d v) (a.put d c).tmps:=by
 cases d with
 |none=>exact h|some i=>
  have hi:=hd i rfl;intro t;show Rel K T w (upd fr.tm i v t) ((a.tmps.setIfInBounds i c).getD t undef);by_cases ht:t=i
  .subst ht;rw[upd_same];have:(a.tmps.setIfInBounds t c).getD t undef=c:=by simp[Array.getD,hi]
   rw[this];exact hr
  .rw[upd_ne _ _ ht];have:(a.tmps.setIfInBounds i c).getD t undef=a.tmps.getD t undef:=by
    simp only[Array.getD,Array.size_setIfInBounds];split
    .rename_i hlt;show (a.tmps.setIfInBounds i c)[t]'(by simpa using hlt)=a.tmps[t];rw[Array.getElem_setIfInBounds_ne hlt (Ne.symm ht)]
    .rfl
   rw[this];exact h t
theorem Hu (a:Act)(d:Option Nat)(c:Value):(a.put d c).tmps.size=a.tmps.size:=by cases d<;>simp[Act.put]
theorem put_defers (a:Act)(d:Option Nat)(c:Value):(a.put d c).defers=a.defers:=by cases d<;>rfl
theorem St.put (h:St E B0 Y K w fr a n ds){new:Nat->Prop}{d:Option Nat}{v:V}{c:Value}(hs:Step E B0 new Y K w Y' K' w')(hr:Rel K' Y'.top w' v c)(hd:∀i,d=some i->i<n)(hst:∀s,K'.A s->s<Y'.next):
 St E B0 Y' K' w' (fr.put d v) (a.put d c) n ds:=
 ⟨hs.ok,PD h.hB hs.below.size,bH.put (h.fr.ext hs.ext) hr (fun i hi=>by rw[h.sz];exact hd i hi),by rw[Hu];exact h.sz,by obtain⟨bs,h1,h2,h3,h4⟩:=h.df;exact⟨bs,by rw[put_defers];exact h1,h2,fun b hb=>⟨hs.D b (h3 b hb).1,(h3 b hb).2⟩,h4⟩,hst,PD h.hD hs.below.size⟩
theorem oK {o:Oper}(ro:Option Nat)(Z:Operand->Value)(h:∀c,o.op≠ .defer c):o.semAt ro Z=execOp Z o:=by
 unfold Oper.semAt;split
 .rename_i c hc;exact absurd hc (h c)
 .rfl
theorem Hw {o:Oper}{ro:Option Nat}{new:Nat->Prop}{v:V}{next:Act->World->Prop}{Q:Exit->Act->World->Prop}(ho:∀c,o.op≠ .defer c)(hd:fZ E B0 new Y K w (execOp a.eval o) v Y')(hn:∀c w' K',Rel K' Y'.top w' v c->Step E B0 new Y K w Y' K' w'->next (a.put o.dst c) w'):o.wpIn (FW ro) 0 E.P a w next Q:=by
 refine⟨fun f _=>trivial,?_⟩;obtain⟨nx,c,w',K',h1,h2,h3,h4⟩:=hd;rw[oK _ _ ho,h1];rcases h2 with rfl| ⟨rfl,rfl⟩
 .exact hn c w' K' h3 h4
 .exact hn undef w' K' h3 h4
end
def fH (Y Y':qd):Prop:=Y'.next=Y.next/\Y'.loops=Y.loops
theorem fH.refl (Y:qd):fH Y Y:=⟨rfl,rfl⟩
section
variable {E:Env}{Y Y':qd}{fr:Fr}
theorem Hy {t:TypeId}{m k v:V}(h:fO E.P Y t m k v=some Y'):fH Y Y':=by
 simp only[fO,iP] at h;obtain⟨⟨kt,et⟩,_,h⟩:=h;split at h
 .cases m<;>simp only[reduceCtorEq] at h;simp only[iP,Py] at h;obtain⟨_,_,_,_,rfl⟩:=h;exact⟨rfl,rfl⟩
 .simp at h
theorem Hz {om:Bool}{st:Nat}{loc:Option Loc}{t:TypeId}{l c v:V}(h:jo E.P om Y st loc t l c=some (v,Y')):fH Y Y':=by unfold jo at h;cases h
theorem HV {t:TypeId}{x y v:V}(h:copyV E.P Y t x y=some (v,Y')):fH Y Y':=by unfold copyV at h;cases h
theorem uS {om zeros:Bool}{st:Nat}{loc:Option Loc}{t:TypeId}{x y v:V}(h:bT E.P om zeros Y st loc t x y=some (v,Y')):fH Y Y':=by
 simp only[bT,iP] at h;obtain⟨_,_,_,_,_,_,_,_,_,_,h⟩:=h;split at h
 .simp only[iP] at h;obtain⟨_,_,h⟩:=h;split at h
  .split at h
   .split at h
    .split at h;all_goals first
      | (simp only[Py,iR] at h;obtain⟨_,_,_,rfl⟩:=h;exact⟨rfl,rfl⟩)
      | (simp only[iE,iR] at h;obtain⟨_,rfl⟩:=h;exact⟨rfl,rfl⟩)
      | (split at h
         .simp at h
         .simp only[Py,iR] at h;obtain⟨_,_,_,rfl⟩:=h;exact⟨rfl,rfl⟩)
      | (split at h
         .simp only[iE,iR] at h;obtain⟨_,rfl⟩:=h;exact⟨rfl,rfl⟩
         .simp only[Py,iR] at h;obtain⟨_,_,_,rfl⟩:=h;exact⟨rfl,rfl⟩)
      | (split at h
         .simp only[iE,iR] at h;obtain⟨_,rfl⟩:=h;exact⟨rfl,rfl⟩
         .simp at h)
      |simp at h
    .simp at h
   .split at h
    .simp only[iP] at h;obtain⟨_,_,_,_,h⟩:=h;split at h
     .split at h
      .simp only[iE,iR] at h;obtain⟨_,rfl⟩:=h;exact⟨rfl,rfl⟩
      .simp at h
     .split at h
      .simp only[iE,iR] at h;obtain⟨_,rfl⟩:=h;exact⟨rfl,rfl⟩
      .simp at h
    .simp at h
   .simp at h
  .simp at h
 .simp at h
theorem HY {t:TypeId}{x v:V}(h:ig E.P Y t x=some (v,Y')):fH Y Y':=by
 simp only[ig,iP] at h;obtain⟨_,_,_,_,_,_,_,_,h⟩:=h;split at h
 .split at h
  .simp only[iP] at h;obtain⟨_,_,h⟩:=h;split at h
   .split at h<;>(simp only[iE,iR] at h;obtain⟨_,rfl⟩:=h;exact⟨rfl,rfl⟩)
   .simp at h
  .simp only[iE,iR] at h;obtain⟨_,rfl⟩:=h;exact⟨rfl,rfl⟩
  .simp at h
 .simp at h
theorem zW {om:Bool}{st:Nat}{loc:Option Loc}{b:Builtin}{tys:Array TypeId}{args:List V}{v:V}(h:eu E om loc Y st b tys args=some (v,Y')):fH Y Y':=by
 unfold eu at h;split at h
 .simp only[iP,Py,iR] at h;obtain⟨_,_,_,_,_,rfl⟩:=h;exact .refl _
 .simp only[iP] at h;obtain⟨_,_,_,_,h⟩:=h;split at h
  .simp only[iE,iR] at h;obtain⟨_,rfl⟩:=h;exact .refl _
  .simp only[iE,iR] at h;obtain⟨_,rfl⟩:=h;exact .refl _
  .simp at h
 .simp only[iP] at h;obtain⟨_,_,_,_,h⟩:=h;split at h
  .exact uS h
  .exact uS h
  .exact uS h
  .simp at h
 .simp only[iP] at h;obtain⟨_,_,h⟩:=h;exact HV h
 .simp only[iP] at h;obtain⟨_,_,h⟩:=h;exact HY h
 .simp only[Py,iR] at h;obtain⟨_,_,_,rfl⟩:=h;exact .refl _
 .simp only[Py,iR] at h;obtain⟨_,_,_,rfl⟩:=h;exact .refl _
 .simp at h
theorem HZ {x v:V}(h:iq Y x=some (v,Y')):fH Y Y':=by
 unfold iq at h;split at h
 .simp only[iP] at h;obtain⟨_,_,h⟩:=h;split at h
  .simp only[iE,iR] at h;obtain⟨_,rfl⟩:=h;exact⟨rfl,rfl⟩
  .simp at h
 .simp only[iE,iR] at h;obtain⟨_,rfl⟩:=h;exact .refl _
 .simp only[iE,iR] at h;obtain⟨_,rfl⟩:=h;exact .refl _
theorem H6 {st:Nat}{loc:Option Loc}{t:TypeId}{len:Nat}{ps:List (Nat×V)}{v:V}(h:jS E Y st loc t len ps=some (v,Y')):fH Y Y':=by
 simp only[jS,iP] at h;obtain⟨_,_,_,_,_,_,_,_,h⟩:=h;split at h
 .simp only[iP,Py,iR] at h;obtain⟨_,_,_,_,_,rfl⟩:=h;exact⟨rfl,rfl⟩
 .simp at h
theorem zX {st:Nat}{o:Oper}{v:V}(h:aH E fr Y st o=some (v,Y')):fH Y Y':=by
 unfold aH at h;split at h;all_goals first
  |exact Hz h
  | (split at h<;>first
      |exact HZ h
      |exact H6 h
      | (simp only[Py,iR] at h;obtain⟨_,_,_,rfl⟩:=h;exact⟨rfl,rfl⟩)
      | (simp only[iE,iR] at h;obtain⟨_,rfl⟩:=h;exact .refl _))
  | (simp only[iE,iR] at h;obtain⟨_,rfl⟩:=h;exact .refl _)
  | (simp only[Py,iR] at h;obtain⟨_,_,_,rfl⟩:=h;exact⟨rfl,rfl⟩)
  | (simp only[Py,iR] at h;obtain⟨_,h1,_,rfl⟩:=h;exact Hy h1)
  | (simp only[iP,Py,iR] at h;obtain⟨_,_,_,_,_,_,_,rfl⟩:=h;exact⟨rfl,rfl⟩)
  |simp at h
  | (simp only[iP] at h
     obtain⟨_,_,h⟩:=h;split at h
     .simp only[iE,iR] at h;obtain⟨_,rfl⟩:=h;exact⟨rfl,rfl⟩
     .simp at h)
  |skip
 all_goals
  repeat' first
   |exact⟨rfl,rfl⟩
   | (obtain⟨_,_,h⟩:=h)
   | (simp only[iP] at h)
   |split at h
   | (simp only[iE,iR] at h;obtain⟨_,rfl⟩:=h;exact⟨rfl,rfl⟩)
   | (simp only[Py,iR] at h;obtain⟨_,_,_,rfl⟩:=h;exact⟨rfl,rfl⟩)
   | (simp at h;done)
end
def Ra.lend (I:Nat->Nat->Prop)(IM:Nat->Prop):Ra:=
 {A:=fun _=>False,blk:=fun _=>0,sz:=fun _=>0,ob:=fun _=>0,lo:=fun _=>0,hi:=fun _=>0,lp:=fun _=>0,I:=I,IM:=IM,D:=fun _=>False,Z:=fun _=>none}
def grow (I:Nat->Nat->Prop)(B:Nat)(w:World)(b o:Nat):Prop:=(I b o\/B<=b)/\∃v,w.cell? (at_ b o)=some v
def jB (IM:Nat->Prop)(B:Nat)(w:World)(b:Nat):Prop:=(IM b\/B<=b)/\∃es aG,w.heap[b]? =some (.map es aG)
theorem iG:∀{l:List V},Ry l=true->∀i,i<l.length->Q9 (l.getD i Lv)=true
 |v::l,h,0,_=>by simp only[Ry,Pz] at h;exact h.1|v::l,h,i+1,hi=>by simp only[Ry,Pz] at h;exact iG h.2 i (by simpa using hi)
theorem uT:∀{l:List V},bQ l=true->∀i,i<l.length->flat (l.getD i Lv)=true
 |v::l,h,0,_=>by simp only[bQ,Pz] at h;exact h.1|v::l,h,i+1,hi=>by simp only[bQ,Pz] at h;exact uT h.2 i (by simpa using hi)
theorem H7 {v:V}(h:Q9 v=true){j:Nat}(hj:j<v.cells.length):Q9 (v.cells.getD j Lv)=true:=by
 cases v with
 |agg cs=>exact iG (l:=cs) (by simpa [Q9] using h) j hj|_=>
  have:j=0:=by simpa [V.cells] using hj
  subst this;exact h
section
variable {K K':Ra}{T T':Nat->Nat}{w w':World}
theorem Rel.pure {v:V}{c:Value}(h:Rel K T w v c)(hp:Q9 v=true)(hI:∀b o,K.I b o->K'.I b o/\w'.cell? (at_ b o)=w.cell? (at_ b o))(hM:∀b,K.IM b->K'.IM b/\w'.heap[b]? =w.heap[b]?):Rel K' T' w' v c:=by
 induction h with
 |int k n=>exact .int k n|bool b=>exact .bool b|str s b h=>exact .str s b h|Tf=>exact .Tf|Ta=>exact .Ta|SI=>exact .SI|SB=>exact .SB|agg cs vs hl _ ih=>exact .agg cs vs hl (fun i hi=>ih i hi (iG (by simpa [Q9] using hp) i hi))
 |Rn cs vs hl _ ih=>exact .Rn cs vs hl (fun i hi=>ih i hi (iG (by simpa [Q9] using hp) i hi))
 |aW c a ha hc=>
  cases c<;>simp only[Q9,PE] at hp;exact .aW .sh a (fun h=>by cases h) trivial
 |tX c l b o n cap val hle hn hcell _ hc ih=>
  cases c<;>simp only[Q9,PE] at hp;refine .tX .sh l b o n cap val hle hn (fun i j hi hj=>?_) (fun i j hi hj=>ih i j hi hj (H7 (iG hp i hi) (by rw[hn i hi];exact hj))) trivial;obtain⟨h1,h2⟩:=hcell i j hi hj;obtain⟨g1,g2⟩:=hI _ _ h2;exact⟨g2.trans h1,g1⟩
 |vw loc s off len cap aD ag aR hA hc hle hsz=>simp[Q9] at hp|dQ loc s aD ag hA=>simp[Q9] at hp|Q5 cs off b o val hcell _ ih=>refine .Q5 cs off b o val (fun j hj=>?_) (fun j hj=>ih j hj (iG (by simpa [Q9] using hp) j hj));obtain⟨h1,h2⟩:=hcell j hj;obtain⟨g1,g2⟩:=hI _ _ h2;exact⟨g2.trans h1,g1⟩
 |ref loc s off hA=>simp[Q9] at hp|fn f a b av bv ha hb _ _ iha ihb=>simp only[Q9,Pz] at hp;exact .fn f a b av bv ha hb (fun i hi=>iha i hi (iG hp.1 i hi)) (fun i hi=>ihb i hi (iG hp.2 i hi))
 |yield l hA=>simp[Q9] at hp|RB loc s hA=>simp[Q9] at hp|R3 ks vs b es aG hM' hb hk hv _ _ ihk nZ=>simp only[Q9,Pz] at hp;obtain⟨g1,g2⟩:=hM b hM';exact .R3 ks vs b es aG g1 (g2.trans hb) hk hv (fun i hi=>ihk i hi (iG hp.1 i (by omega))) (fun i hi=>nZ i hi (iG hp.2 i (by omega)))
 |iface t v c _ ih=>exact .iface t v c (ih (by simpa [Q9] using hp))|raw v=>simp[Q9] at hp
theorem Rel.flat {v:V}{c:Value}(h:Rel K T w v c)(hp:flat v=true):Rel K' T' w' v c:=by
 induction h with
 |int k n=>exact .int k n|bool b=>exact .bool b|str s b h=>exact .str s b h|Tf=>exact .Tf|Ta=>exact .Ta|SI=>exact .SI|SB=>exact .SB|agg cs vs hl _ ih=>exact .agg cs vs hl (fun i hi=>ih i hi (uT (by simpa [Aq.flat] using hp) i hi))
 |Rn cs vs hl _ ih=>exact .Rn cs vs hl (fun i hi=>ih i hi (uT (by simpa [Aq.flat] using hp) i hi))
 |_=>simp[Aq.flat] at hp
theorem H9 {cs:List V}{vs:Array Value}(h:Rel K T w (.agg cs) (.agg vs)):cs.length=vs.size/\∀i,i<cs.length->Rel K T w (cs.getD i Lv) (vs.getD i undef):=by
 cases h with
 |agg _ _ hl h=>exact⟨hl,h⟩
theorem Ia {n:Nat}{Y:qd}{cs:List V}{v:V}(h:Rf n Y (.agg cs)=some v):∃cs',v= .agg cs':=by
 cases n with
 |zero=>simp[Rf] at h|succ n=>
  unfold Rf at h;split at h
  .simp only[iE] at h;exact⟨cs,h.symm⟩
  .simp only[Py] at h;obtain⟨cs',_,rfl⟩:=h;exact⟨cs',rfl⟩
theorem Ib {n:Nat}{Y:qd}{x v:V}(hx:∀cs,x≠ .agg cs)(h:Rf n Y x=some v):v.cells=[v]/\x.cells=[x]:=by
 have h2:x.cells=[x]:=by cases x<;>first|rfl|exact absurd rfl (hx _)
 refine⟨?_,h2⟩;cases n with
 |zero=>simp[Rf] at h|succ n=>
  unfold Rf at h;split at h
  .simp only[iE] at h;subst h;exact h2
  .split at h;all_goals try (simp only[reduceCtorEq] at h;done)
   all_goals try (simp only[Py] at h;obtain⟨_,_,rfl⟩:=h;first|rfl|exact absurd rfl (hx _))
   all_goals try (simp only[iP,Py] at h;obtain⟨_,_,_,_,rfl⟩:=h;rfl)
   .simp only[iP] at h;obtain⟨_,_,h⟩:=h;split at h
    .simp only[iP] at h;obtain⟨_,_,h⟩:=h;split at h
     .simp only[iE] at h;subst h;rfl
     .simp at h
    .simp at h
   .simp only[iP] at h;obtain⟨⟨ks,vs⟩,_,h⟩:=h;simp only[iP,Py] at h;obtain⟨_,_,_,_,rfl⟩:=h;rfl
theorem qQ {E:Env}{B0:Nat}{Y:qd}(h:au E B0 Y K w):∀(n:Nat)(v v':V)(c:Value),Rel K Y.top w v c->Rf n Y v=some v'->
 Rel (Ra.lend (grow K.I B0 w) (jB K.IM B0 w)) T' w v' c:=by
 have mP:∀b o,K.I b o->grow K.I B0 w b o/\w.cell? (at_ b o)=w.cell? (at_ b o):=fun b o hi=>⟨⟨.inl hi,(h.I b o hi).1⟩,rfl⟩;have oL:∀b,K.IM b->jB K.IM B0 w b/\w.heap[b]? =w.heap[b]? :=fun b hi=>⟨⟨.inl hi,(h.IM b hi).1⟩,rfl⟩;intro n;induction n with
 |zero=>intro v v' c _ hc;simp[Rf] at hc|succ n ih=>
  intro v v' c hr hc;have hlist:∀(l l':List V)(val:Nat->Value),l.mapM (Rf n Y)=some l'->(∀i,i<l.length->Rel K Y.top w (l.getD i Lv) (val i))->
   l'.length=l.length/\∀i,i<l'.length->Rel (Ra.lend (grow K.I B0 w) (jB K.IM B0 w)) T' w (l'.getD i Lv) (val i):=by
   intro l l' val hm hv;obtain⟨h1,h2⟩:=mapM_some hm;refine⟨h1.symm,fun i hi=>?_⟩;obtain⟨h3,h4⟩:=h2 i (by omega);have:=hv i (by omega);rw[cZ (show i<l.length by omega)] at this;rw[cZ h3];exact ih _ _ _ this h4
  have hcells:∀(x x':V)(m:Nat)(val:Nat->Value),Rf n Y x=some x'->x.cells.length=m->(∀j,j<m->Rel K Y.top w (x.cells.getD j Lv) (val j))->
   x'.cells.length=m/\∀j,j<m->Rel (Ra.lend (grow K.I B0 w) (jB K.IM B0 w)) T' w (x'.cells.getD j Lv) (val j):=by
   intro x x' m val hx hm hv;by_cases hag:∃cs,x= .agg cs
   .obtain⟨cs,rfl⟩:=hag;obtain⟨cs',rfl⟩:=Ia hx;have hm':cs.length=m:=hm;have hcell:∀j,j<m->(Array.ofFn fun i:Fin m=>val i).getD j undef=val j:=fun j hj=>by simp[Array.getD,hj]
    have r:Rel K Y.top w (.agg cs) (.agg (Array.ofFn fun i:Fin m=>val i)):=.agg _ _ (by simpa using hm') (fun i hi=>by rw[hcell i (by omega)];exact hv i (by omega));obtain⟨g1,g2⟩:=H9 (ih _ _ _ r hx);have g1':cs'.length=m:=(by simpa using g1);exact⟨g1',fun j hj=>by have:=g2 j (by omega);rw[hcell j hj] at this;exact this⟩
   .obtain⟨h1,h2⟩:=Ib (fun cs e=>hag ⟨cs,e⟩) hx;rw[h2] at hm hv;have hm1:m=1:=(by simpa using hm.symm);subst hm1;rw[h1];refine⟨rfl,fun j hj=>?_⟩;have hj0:j=0:=(by omega);subst hj0;exact ih _ _ _ (hv 0 (by omega)) hx
  have qC:∀loc s cs,Y.Rt loc s=some cs->cs≠[]->∃vals t,w.heap[K.blk s]? =some (.cells vals t (0,0))/\vals.size=K.sz s/\cs.length<=vals.size/\B0<=K.blk s/\
   (∀i,i<cs.length->Rel K Y.top w (cs.getD i Lv) (vals.getD i undef))/\∀i,i<vals.size->w.cell? (at_ (K.blk s) i)=some (vals.getD i undef):=by
   intro loc s cs hcs hne;obtain⟨g1,_,_⟩:=h.jU hcs;obtain⟨a1,a2,a3⟩:=h.obj _ _ _ g1;obtain⟨b1,vals,t,b2,b3,b4,b5⟩:=a2.2 hne;refine⟨vals,t,b2,b3,b4,b1,b5,fun i hi=>?_⟩;simp[World.cell?,b2,Array.getD,hi]
  unfold Rf at hc;split at hc
  .rename_i hp;simp only[iE] at hc;subst hc;exact hr.pure hp mP oL
  .cases hr with
   |aW c a ha hcn=>simp only[List.mapM_nil,Option.pure_def,Option.map_some,iE] at hc;subst hc;exact .aW .sh a (fun h=>by cases h) trivial
   |tX c l b o m cap val hle hn hcell hrel hcap=>
    simp only[Py] at hc;obtain⟨l',hm,rfl⟩:=hc;obtain⟨h1,h2⟩:=mapM_some hm;have hel:∀i,i<l'.length->(l'.getD i Lv).cells.length=m/\∀j,j<m->Rel (Ra.lend (grow K.I B0 w) (jB K.IM B0 w)) T' w ((l'.getD i Lv).cells.getD j Lv) (val i j):=by
     intro i hi;obtain⟨h3,h4⟩:=h2 i (by omega);rw[cZ h3];refine hcells _ _ m (val i) h4 ?_ (fun j hj=>?_)
     .have:=hn i (by omega);rwa[cZ (show i<l.length by omega)] at this
     .have:=hrel i j (by omega) hj;rwa[cZ (show i<l.length by omega)] at this
    rw[h1];refine .tX .sh l' b o m cap val (by omega) (fun i hi=>(hel i hi).1) (fun i j hi hj=>?_) (fun i j hi hj=>(hel i hi).2 j hj) trivial;obtain⟨e1,e2⟩:=hcell i j (by omega) hj;exact⟨e1,(mP _ _ e2).1⟩
   |agg cs vs hl hrel=>simp only[Py] at hc;obtain⟨l',hm,rfl⟩:=hc;obtain⟨h1,h2⟩:=hlist _ _ (fun i=>vs.getD i undef) hm hrel;exact .agg _ _ (by omega) h2
   |Rn cs vs hl hrel=>simp only[Py] at hc;obtain⟨l',hm,rfl⟩:=hc;obtain⟨h1,h2⟩:=hlist _ _ (fun i=>vs.getD i undef) hm hrel;exact .Rn _ _ (by omega) h2
   |Q5 cs off b o val hcell hrel=>simp only[Py] at hc;obtain⟨l',hm,rfl⟩:=hc;obtain⟨h1,h2⟩:=hlist _ _ val hm hrel;exact .Q5 l' off b o val (fun j hj=>⟨(hcell j (by omega)).1,(mP _ _ (hcell j (by omega)).2).1⟩) h2
   |fn f a b av bv ha hb ra rb=>simp only[iP,Py] at hc;obtain⟨a',hma,b',hmb,rfl⟩:=hc;obtain⟨h1,h2⟩:=hlist _ _ (fun i=>av.getD i undef) hma ra;obtain⟨h3,h4⟩:=hlist _ _ (fun i=>bv.getD i undef) hmb rb;exact .fn f a' b' av bv (by omega) (by omega) h2 h4
   |ref loc s off hA=>
    simp only[iP,Py] at hc;obtain⟨cs,hcs,cs',hm,rfl⟩:=hc;have key:Rel (Ra.lend (grow K.I B0 w) (jB K.IM B0 w)) T' w (.Q5 cs' off) (.pointer (some (at_ (K.blk s) (0+off)))):=by
     by_cases hne:cs=[]
     .subst hne;simp only[List.mapM_nil,Option.pure_def,iE] at hm;subst hm;exact .Q5 [] off _ 0 (fun _=>undef) (fun j hj=>absurd hj (PO j)) (fun j hj=>absurd hj (PO j))
     .obtain⟨vals,t,e1,e2,e3,e4,e5,e6⟩:=qC _ _ _ hcs hne;obtain⟨h1,h2⟩:=hlist _ _ (fun i=>vals.getD i undef) hm e5;refine .Q5 cs' off _ 0 (fun i=>vals.getD i undef) (fun j hj=>?_) h2;rw[Qi];exact⟨e6 j (by omega),.inr e4,_,e6 j (by omega)⟩
    rwa[Qi] at key
   |dQ loc s aD ag hA=>
    simp only[iP] at hc;obtain⟨cs,hcs,hc⟩:=hc;split at hc
    .simp only[iP] at hc;obtain⟨cs',hm,hc⟩:=hc;split at hc
     .simp only[iE] at hc;subst hc;exact .aW .sh none (fun _=>rfl) trivial
     .simp at hc
    .simp at hc
   |vw loc s off len cap aD ag aR hA hcp hle hsz=>
    simp only[iP] at hc;obtain⟨cs,hcs,hc⟩:=hc;split at hc
    .rename_i hlen;simp only[iP] at hc;obtain⟨cs',hm,hc⟩:=hc;split at hc
     .rename_i hag;simp only[iE] at hc;subst hc;have oI:ag=false->aD=1:=fun e=>by simp[e] at hag;exact hag.1
      have oJ:ag=false->RP cs'=true:=fun e=>by simp[e] at hag;exact hag.2
      have hl':((cs.drop off).take (len*aD)).length=len*aD:=(by simp;omega);by_cases hne:cs=[]
      .subst hne;have h0:len*aD=0:=(by simp at hlen;omega);have hd:(([]:List V).drop off).take (len*aD)=[]:=(by simp);rw[hd] at hm;simp only[List.mapM_nil,Option.pure_def,iE] at hm;subst hm;exact ow (w:=w) (val:=fun _=>undef) oI (by rw[h0];exact Ql _) oJ (fun j hj=>by omega) (fun j hj=>by omega) (by omega) trivial
      .obtain⟨vals,t,e1,e2,e3,e4,e5,e6⟩:=qC _ _ _ hcs hne;obtain⟨h1,h2⟩:=hlist _ _ (fun i=>vals.getD (off+i) undef) hm (fun i hi=>by rw[hl'] at hi;rw[iA _ hi,iW];exact e5 _ (by omega));rw[hl'] at h1;refine ow (w:=w) (val:=fun i=>vals.getD (off+i) undef) oI (by omega) oJ (fun j hj=>⟨e6 _ (by omega),.inr e4,_,e6 _ (by omega)⟩) (fun j hj=>h2 j (by omega)) (by omega) trivial
     .simp at hc
    .simp at hc
   |RB loc s hA=>
    simp only[iP] at hc;obtain⟨⟨ks,vs⟩,hmp,hc⟩:=hc;simp only[iP,Py] at hc;obtain⟨ks',hk,vs',hv,rfl⟩:=hc;have bU:Y.obj loc=some (s,.map ks vs):=by
     unfold qd.aV at hmp;split at hmp
     .rename_i s' Pf vs0 ho;split at hmp
      .rename_i hs;simp only[iE,iR] at hmp;obtain⟨rfl,rfl⟩:=hmp;rw[ho,hs]
      .simp at hmp
     .simp at hmp
    obtain⟨_,⟨a1,es,aG,a2,a3,a4,a5,a6⟩,_⟩:=h.obj _ _ _ bU;obtain⟨h1,h2⟩:=hlist _ _ (fun i=>(es.getD i default).key) hk (fun i hi=>a5 i (by omega));obtain⟨h3,h4⟩:=hlist _ _ (fun i=>(es.getD i default).val) hv (fun i hi=>a6 i (by omega));exact .R3 ks' vs' _ es aG ⟨.inr a1,es,aG,a2⟩ a2 (by omega) (by omega) (fun i hi=>h2 i (by omega)) (fun i hi=>h4 i (by omega))
   |R3 ks vs b es aG hM hb hk hv rk rv=>simp only[iP,Py] at hc;obtain⟨ks',hk',vs',hv',rfl⟩:=hc;obtain⟨h1,h2⟩:=hlist _ _ (fun i=>(es.getD i default).key) hk' (fun i hi=>rk i (by omega));obtain⟨h3,h4⟩:=hlist _ _ (fun i=>(es.getD i default).val) hv' (fun i hi=>rv i (by omega));exact .R3 ks' vs' b es aG (oL b hM).1 hb (by omega) (by omega) (fun i hi=>h2 i (by omega)) (fun i hi=>h4 i (by omega))
   |iface t x c hx=>simp only[Py] at hc;obtain⟨x',hx',rfl⟩:=hc;exact .iface t x' c (ih _ _ _ hx hx')
   |_=>simp at hc
end
def qR (E:Env)(I:Nat->Nat->Prop)(IM:Nat->Prop)(w:World):Prop:=
 (∀b o,I b o->∃v,w.cell? (at_ b o)=some v)/\(∀b,IM b->∃es aG,w.heap[b]? =some (.map es aG))/\
 ∀g cs,E.glob g=some cs->Rel (Ra.lend I IM) (fun _=>0) w (.Q5 cs 0) (.pointer (some (at_ g 0)))
def zY (I:Nat->Nat->Prop)(IM:Nat->Prop)(w:World)(v:V):Ending->World->Prop
 |.returned c,w'=>Below w.heap.size w w'/\Rel (Ra.lend (grow I w.heap.size w') (jB IM w.heap.size w')) (fun _=>0) w' v c
 |_,_=>False
def Um (E:Env)(f:FuncId)(args:List V)(v:V):Prop:=
 aaf E f/\∀I IM w Ru,qR E I IM w->RelA (Ra.lend I IM) (fun _=>0) w args Ru->CallsIn Fence.wide 0 E.P f Ru w (zY I IM w v)
structure TU (E:Env):Prop where
 name:∀(f:FuncId)(fn:Func),E.P.funcs[f]? =some fn->fn.name≠ "runtime.NumGoroutine"
 Wi:∀f g,E.Wi f=some g->∀args v,g args=some v->Um E f args v
 mixed:E.P.follows .mixedOrders=true
 flat:∀g cs,E.glob g=some cs->Ry cs=true
section
variable {E:Env}{S:R8}{K K':Ra}{T T':Nat->Nat}{w w':World}{Y Y':qd}{B0:Nat}
theorem Rel.mQ {I:Nat->Nat->Prop}{IM:Nat->Prop}{v:V}{c:Value}(h:Rel (Ra.lend I IM) T w v c)(hI:∀b o,I b o->K'.I b o/\w'.cell? (at_ b o)=w.cell? (at_ b o))(hM:∀b,IM b->K'.IM b/\w'.heap[b]? =w.heap[b]?):Rel K' T' w' v c:=by
 generalize hK:Ra.lend I IM=K at h;induction h with
 |int k n=>exact .int k n|bool b=>exact .bool b|str s b h=>exact .str s b h|Tf=>exact .Tf|Ta=>exact .Ta|SI=>exact .SI|SB=>exact .SB|agg cs vs hl _ ih=>exact .agg cs vs hl (fun i hi=>ih i hi)
 |Rn cs vs hl _ ih=>exact .Rn cs vs hl (fun i hi=>ih i hi)
 |aW c a ha hc=>
  cases c with
  |own n s=>subst hK;exact hc.1.elim|_=>exact .aW _ a ha trivial
 |tX c l b o n cap val hle hn hcell _ hc ih=>
  refine .tX c l b o n cap val hle hn (fun i j hi hj=>?_) ih ?_
  .obtain⟨h1,h2⟩:=hcell i j hi hj;subst hK;obtain⟨g1,g2⟩:=hI _ _ h2;exact⟨g2.trans h1,g1⟩
  .cases c with
   |own n s=>subst hK;exact hc.2.1.elim|sh=>trivial|full=>exact hc|nil=>exact hc
 |vw loc s off len cap aD ag aR hA hc hle hsz=>subst hK;exact hA.elim|dQ loc s aD ag hA=>subst hK;exact hA.elim|Q5 cs off b o val hcell _ ih=>refine .Q5 cs off b o val (fun j hj=>?_) ih;obtain⟨h1,h2⟩:=hcell j hj;subst hK;obtain⟨g1,g2⟩:=hI _ _ h2;exact⟨g2.trans h1,g1⟩
 |ref loc s off hA=>subst hK;exact hA.elim|fn f a b av bv ha hb _ _ iha ihb=>exact .fn f a b av bv ha hb iha ihb|yield l hA=>subst hK;exact hA.elim|RB loc s hA=>subst hK;exact hA.elim|R3 ks vs b es aG hM' hb hk hv _ _ ihk nZ=>subst hK;obtain⟨g1,g2⟩:=hM b hM';exact .R3 ks vs b es aG g1 (g2.trans hb) hk hv ihk nZ
 |iface t v c _ ih=>exact .iface t v c ih|raw v=>exact .raw v
theorem zZ {B b o:Nat}(h:Below B w w')(hb:b<B):w'.cell? (at_ b o)=w.cell? (at_ b o):=cell_of_heap (h.block b hb)
theorem uU {I:Nat->Nat->Prop}{IM:Nat->Prop}(h:qR E I IM w):au E w.heap.size qd.init (Ra.lend I IM) w where
 obj loc s ob hs:=by simp[qd.init] at hs
 own s hs:=hs.elim
 I b o hi:=⟨h.1 b o hi,fun loc e=>by simp[Ra.lend] at e⟩
 IM b hi:=⟨h.2.1 b hi,fun loc e=>by simp[Ra.lend] at e⟩
 loop l r hl:=by simp[qd.init] at hl
 glob g cs hg:=by have:=h.2.2 g cs hg;exact this.mQ (fun _ _ h=>⟨h,rfl⟩) (fun _ h=>⟨h,rfl⟩)
 rb b r hr:=by simp[Ra.lend] at hr
 D b hd:=hd.elim
theorem abo (hE:TU E)(hS:kY E S.call){f:FuncId}{args:List V}{v:V}(h:VW E S f args=some v):Um E f args v:=by
 unfold VW at h;split at h
 .rename_i g hg;exact hE.Wi f g hg args v h
 .simp only[iP] at h;obtain⟨⟨v0,Y1⟩,hc,h⟩:=h;obtain⟨_,hb,hs⟩:=hS _ _ _ _ _ _ hc;refine⟨hb,fun I IM w Ru hl hr=>?_⟩;have hr':RelA (Ra.lend I IM) qd.init.top w args Ru:=hr;refine(hs none w.heap.size (Ra.lend I IM) w Ru (uU hl) (mF _) (fun s hs=>hs.elim) hr').mono ?_;intro e w' hp;cases e with
  |returned c=>
   obtain⟨K1,r1,s1,_,st⟩:=hp;refine⟨st.below,?_⟩;have:=qQ (T':=fun _=>0) s1 20 v0 v c r1 h;refine this.mQ (fun b o hi=>⟨⟨?_,hi.2⟩,rfl⟩) (fun b hi=>⟨⟨?_,hi.2⟩,rfl⟩)
   .rcases hi.1 with h1|h1
    .exact st.nI b o h1
    .exact .inr h1
   .rcases hi.1 with h1|h1
    .exact st.fU b h1
    .exact .inr h1
  |panicked ch=>exact hp.elim|outgrown=>exact hp.elim
theorem Step.grow (h:au E B0 Y K w)(hB:B0<=w.heap.size){new:Nat->Prop}(hb:Below w.heap.size w w'):
 Step E B0 new Y K w Y {K with I:=Aq.grow K.I w.heap.size w',IM:=jB K.IM w.heap.size w'} w':=by
 have mP:∀b o,K.I b o->w'.cell? (at_ b o)=w.cell? (at_ b o):=fun b o hi=>zZ hb (lt_of_cell (h.I b o hi).1.choose_spec);have oL:∀b,K.IM b->w'.heap[b]? =w.heap[b]? :=fun b hi=>by obtain⟨⟨es,aG,h1⟩,_⟩:=h.IM b hi;exact hb.block b (lt_of_heap h1)
 have e:Ext K Y.top w {K with I:=Aq.grow K.I w.heap.size w',IM:=jB K.IM w.heap.size w'} Y.top w':=
  ⟨fun _ h=>⟨h,rfl,rfl,rfl⟩,fun _ _=>.inl ⟨rfl,rfl,rfl,rfl⟩,fun b o hi=>⟨⟨.inl hi,by rw[mP b o hi];exact(h.I b o hi).1⟩,mP b o hi⟩,
    fun b hi=>⟨⟨.inl hi,by rw[oL b hi];exact(h.IM b hi).1⟩,oL b hi⟩⟩
 refine⟨⟨fun loc s ob hs=>?_,fun s hs hl=>?_,fun b o hi=>⟨hi.2,?_⟩,fun b hi=>⟨hi.2,?_⟩,fun l r hl=>?_,fun g cs hg=>(h.glob g cs hg).ext e,fun b r hr=>?_,fun b hd=>?_⟩,e,
  ⟨hb.os,hb.tape,hb.output,hb.size,fun k hk=>hb.block k (by omega)⟩,fun _ h=>h,fun _ h=>.inl h,fun b o hi=>hi.1.imp id (by omega),fun b hi=>hi.1.imp id (by omega)⟩
 .obtain⟨a1,a2,a3⟩:=h.obj loc s ob hs;exact⟨a1,a2.ext e a1 (fun hr=>hb.block _ (h.rb _ _ (a3 hr)).1),a3⟩
 .obtain⟨a1,a2,a3⟩:=h.own s hs hl;have hlt:=(h.rb _ _ a2).1;refine⟨a1,a2,fun o h1 h2=>?_⟩;obtain⟨c1,⟨v,c2⟩,c3⟩:=a3 o h1 h2;refine⟨fun hi=>?_,⟨v,(zZ hb hlt).trans c2⟩,?_⟩
  .rcases hi.1 with h1|h1
   .exact c1 h1
   .have:w.heap.size<=K.ob s:=h1;omega
  .rw[frozen_of_heap (hb.block _ hlt)];exact c3
 .intro loc hZ;rcases hi.1 with h1|h1
  .exact(h.I b o h1).2 loc hZ
  .have:=(h.rb _ _ hZ).1;omega
 .intro loc hZ;rcases hi.1 with h1|h1
  .exact(h.IM b h1).2 loc hZ
  .have:=(h.rb _ _ hZ).1;omega
 .obtain⟨a1,a2⟩:=h.loop l r hl;exact⟨a1,a2.ext e a1 (hb.block _ (h.rb _ _ a2.2.1).1) rfl⟩
 .have:=h.rb b r hr;exact⟨PS this.1 hb.size,this.2⟩
 .have:=h.D b hd;rw[hb.block b (lt_of_heap this)];exact this
end
section
variable {E:Env}{S:R8}{K K':Ra}{w w':World}{Y Y':qd}{B0:Nat}
theorem uV (w:World)(b:Nat)(o:Obj):Only b w (w.putObj b o):=⟨rfl,rfl,rfl,by simp,fun _ hk _=>World.putObj_heap_other hk⟩
theorem Step.aO (h:au E B0 Y K w)(hB:B0<=w.heap.size){new:Nat->Prop}{l:Nat}{r r':Vg}(hl:Y.loops l=some r)(h1:r'.fr=r.fr)(h2:r'.ps=r.ps)(h3:r'.aF=r.aF)(h4:r'.body=r.body){rec:Go.Loop}(hr:w.heap[K.lp l]? =some (.loop rec)):
 Step E B0 new Y K w (Y.aO l r') K (w.putObj (K.lp l) (.loop {rec with state:=dV r'.st,pending:=r'.pend.bind eB})):=by
 obtain⟨hA,hb0,hZ,fn,tmps,D,hh,hf,hok⟩:=h.loop l r hl;have hrec:rec={state:=dV r.st,pending:=r.pend.bind eB,fn:=fn,tmps:=tmps,params:=r.ps.toArray,assign:=r.aF,body:=r.body,defers:=D}:=by rw[hh] at hr;simpa using hr.symm
 have hlt:=lt_of_heap hr;have ho:=uV w (K.lp l) (.loop {rec with state:=dV r'.st,pending:=r'.pend.bind eB});have hnew:(w.putObj (K.lp l) (.loop {rec with state:=dV r'.st,pending:=r'.pend.bind eB})).heap[K.lp l]? =some (.loop {rec with state:=dV r'.st,pending:=r'.pend.bind eB}):=World.putObj_heap_same hlt;have hcell:∀b o v,w.cell? (at_ b o)=some v->b≠K.lp l:=fun b o v hv e=>by subst e;simp[World.cell?,hr] at hv
 have e:Ext K Y.top w K Y.top (w.putObj (K.lp l) (.loop {rec with state:=dV r'.st,pending:=r'.pend.bind eB})):=by
  refine⟨fun _ h=>⟨h,rfl,rfl,rfl⟩,fun _ _=>.inl ⟨rfl,rfl,rfl,rfl⟩,fun b o hi=>⟨hi,?_⟩,fun b hi=>⟨hi,?_⟩⟩
  .obtain⟨⟨v,hv⟩,_⟩:=h.I b o hi;exact cell_of_heap (ho.block b (hcell b o v hv) (lt_of_cell hv))
  .obtain⟨⟨es,aG,hv⟩,_⟩:=h.IM b hi;exact ho.block b (eD hv hr (by simp)) (lt_of_heap hv)
 refine⟨?_,e,ho.below hb0 hB,fun _ h=>h,fun _ h=>.inl h,fun _ _ h=>.inl h,fun _ h=>.inl h⟩;refine h.upd (Y':=Y.aO l r') ho e (fun _ _=>rfl) (fun r hr'=>⟨by simpa using hlt,hb0⟩) ?_ ?_ ?_ ?_ ?_ ?_
 .intro loc s ob hs;refine .inl ⟨hs,fun cu=>?_⟩;intro e';have:=(h.obj loc s ob hs).2.2 cu;rw[e',hZ] at this;cases this
 .intro s hs hlt';refine .inl ⟨hs,rfl,rfl,rfl,fun e'=>?_⟩;have:=(h.own s hs hlt').2.1;rw[e',hZ] at this;cases this
 .intro b' o hi;obtain⟨⟨v,hv⟩,_⟩:=h.I b' o hi;exact .inl ⟨hi,hcell b' o v hv⟩
 .intro b' hi;obtain⟨⟨es,aG,hv⟩,_⟩:=h.IM b' hi;exact .inl ⟨hi,eD hv hr (by simp)⟩
 .intro l' r1 hl';by_cases hll:l'=l
  .subst hll;right;have hr1:r'=r1:=by simpa [qd.aO,upd] using hl'
   subst hr1;refine⟨hA,hb0,hZ,fn,tmps,D,?_,?_,?_⟩
   .rw[hnew,hrec,h2,h3,h4]
   .rw[h1];exact hf.ext e
   .rw[h2,h3,h4];exact hok
  .left;have hl1:Y.loops l'=some r1:=by simpa [qd.aO,upd,hll] using hl'
   refine⟨hl1,fun e'=>?_⟩;have:=(h.loop l' r1 hl1).2.2.1;rw[e',hZ] at this;cases this;exact hll rfl
 .intro b' hd;exact .inl ⟨hd,eD (h.D b' hd) hr (by simp)⟩
theorem z8 {T:Nat->Nat}:∀(ps:List Nat)(args:List V)(cs:List Value)(fr:Fr)(tmps:Array Value),ps.length=args.length->args.length=cs.length->bH K T w fr tmps->(∀i,i<args.length->Rel K T w (args.getD i Lv) (cs.getD i undef))->(∀p∈ps,p<tmps.size)->bH K T w {fr with tm:=(ps.zip args).foldl (fun tm (p,a)=>upd tm p a) fr.tm} ((ps.zip cs).foldl (fun tmps (t,a)=>tmps.setIfInBounds t a) tmps)/\
   ((ps.zip cs).foldl (fun tmps (t,a)=>tmps.setIfInBounds t a) tmps).size=tmps.size:=by
 intro ps;induction ps with
 |nil=>intro args cs fr tmps _ _ hf _ _;exact⟨hf,rfl⟩|cons p ps ih=>
  intro args cs fr tmps hl hl2 hf hr hp;cases args with
  |nil=>simp at hl|cons a args=>
   cases cs with
   |nil=>simp at hl2|cons c cs=>have hput:=bH.put (K:=K) (w:=w) (T:=T) (a:={tmps:=tmps,defers:=[]}) hf (d:=some p) (v:=a) (c:=c) (hr 0 (by simp)) (fun i hi=>by cases hi;exact hp p (by simp));have:=ih args cs (fr.set p a) (tmps.setIfInBounds p c) (by simpa using hl) (by simpa using hl2) hput (fun i hi=>hr (i+1) (by simpa using hi)) (fun q hq=>by simpa using hp q (by simp[hq]));refine⟨this.1,this.2.trans (by simp)⟩
theorem zip_toArray (ps:List Nat)(cs tmps:Array Value):(ps.toArray.zip cs).foldl (fun tmps (t,a)=>tmps.setIfInBounds t a) tmps=(ps.zip cs.toList).foldl (fun tmps (t,a)=>tmps.setIfInBounds t a) tmps:=by
 rw[<-Array.foldl_toList];congr 1;simp
theorem Ic (hS:iY E S.code)(h:au E B0 Y K w)(hB:B0<=w.heap.size)(hA:∀s,K.A s->s<Y.next){l:Nat}{args:List V}{Ru:Array Value}{v:V}(hv:fF S l args Y=some (v,Y'))(ra:RelA K Y.top w args Ru):
 Y.next<=Y'.next/\∃fn tmps aF body,(Instr.yield (K.lp l) Ru).run E.P w= .ok (.round (K.lp l) fn tmps aF body) w/\RoundIn Fence.wide 0 E.P (K.lp l) fn tmps aF body w (gq E B0 Y K w v Y'):=by
 unfold fF at hv;simp only[iP] at hv;obtain⟨r,hl,hv⟩:=hv;split at hv
 .rename_i hst;simp only[iP] at hv;obtain⟨⟨e1,Rb,Y1⟩,jC,hv⟩:=hv;cases e1 with
  |normal=>
   simp only[iP] at hv;obtain⟨r1,hl1,hv⟩:=hv;split at hv
   .rename_i iZ;simp only[iP] at hv;obtain⟨⟨e2,RX,Y2⟩,hbody,r2,hl2,hv⟩:=hv;split at hv
    .rename_i Ph;obtain⟨uW,hb0,hZ,fn,tmps,D,hh,hf,hok1,hok2,hps,hn1,hn2⟩:=h.loop l r hl;obtain⟨hle1,hw1⟩:=hS _ _ _ _ _ _ jC;obtain⟨hle2,hw2⟩:=hS _ _ _ _ _ _ hbody;have uX:Y1.next<=Y2.next:=hle2;have hnext:Y'.next=Y2.next:=by
      cases e2<;>simp only[iE,iR] at hv<;>obtain⟨_,rfl⟩:=hv<;>rfl
     refine⟨by omega,?_⟩;have hsz:Ru.size=r.ps.length:=(by have:=ra.1;omega);have lg:=run_yield (P:=E.P) (args:=Ru) hh (by simpa using hsz);refine⟨_,_,_,_,lg,?_⟩;dsimp only;rw[zip_toArray];have lq:=z8 (K:=K) (w:=w) (T:=Y.top) r.ps args Ru.toList r.fr tmps hst.2 (by have:=ra.1;simpa using this) hf (fun i hi=>by rw[mM];exact ra.2 i hi) hps;generalize Ie:(r.ps.zip Ru.toList).foldl (fun tmps (t,a)=>tmps.setIfInBounds t a) tmps=uY at lq;refine roundIn_of_wpIn trivial ?_;have hs0:St E B0 Y K w {r.fr with tm:=(r.ps.zip args).foldl (fun tm (p,a)=>upd tm p a) r.fr.tm} {tmps:=uY,defers:=[]} tmps.size ⟨[],0,true⟩:=
      ⟨h,hB,lq.1,lq.2,⟨[],rfl,List.nodup_nil,(fun b hb=>by cases hb),fun _=>rfl⟩,hA,Ql _⟩
     refine wpIn_mono (hw1 (some (K.lp l)) B0 K w _ tmps.size ⟨[],0,true⟩ hs0 hok1 (.inr hn1)) ?_;rintro x a1 w1 ⟨hx,K1,hs1,st1⟩;cases x<;>simp only[bX] at hx;obtain⟨Aa,hb1,Ig,oM,oN,D1,oO,hf1,_⟩:=hs1.ok.loop l r1 hl1;have jD:K1.lp l=K.lp l:=(st1.ext.A l uW).2.2.1;have hbr:=run_beginRound (P:=E.P) oO (by simp[dV,iZ]);have jE:=Step.aO (new:=newer Y1 (Y1.aO l {r1 with st:=1})) hs1.ok hs1.hB (r':={r1 with st:=1}) hl1 rfl rfl rfl rfl oO;rw[jD] at hbr;refine⟨_,hbr,?_⟩;have uZ:(w1.putObj (K.lp l) (.loop {state:=LoopState.busy,pending:=r1.pend.bind eB,fn:=oM,tmps:=oN,params:=r1.ps.toArray,assign:=r1.aF,body:=r1.body,defers:=D1}))=
      (w1.putObj (K1.lp l) (.loop {({state:=dV r1.st,pending:=r1.pend.bind eB,fn:=oM,tmps:=oN,params:=r1.ps.toArray,assign:=r1.aF,body:=r1.body,defers:=D1}:Go.Loop) with state:=dV 1,pending:=r1.pend.bind eB})):=by
      rw[jD];rfl
     dsimp only;rw[uZ];have u6:St E B0 (Y1.aO l {r1 with st:=1}) K1 _ Rb a1 tmps.size ⟨[],0,true⟩:=
      ⟨jE.ok,PD hs1.hB jE.below.size,hs1.fr.ext jE.ext,hs1.sz,hs1.df,hs1.st,Ql _⟩
     have st01:=Step.trans (new:=newer Y Y1) st1 (jE.mono (fun s hs=>by have h1:Y1.next<=s:=hs.1;have h2:s<Y1.next:=hs.2;omega));refine wpIn_mono (hw2 (some (K.lp l)) B0 K1 _ a1 tmps.size ⟨[],0,true⟩ u6 hok2 (.inr hn2)) ?_;rintro x a2 w2 ⟨hx2,K2,hs2,st2⟩;obtain⟨Pj,hb2,Pk,Ih,Ii,D2,Ab,hf2,_⟩:=hs2.ok.loop l r2 hl2;have qU:K2.lp l=K.lp l:=((st2.ext.A l Aa).2.2.1).trans jD;have fI:Step E B0 (newer Y Y2) Y K w Y2 K2 w2:=by
      refine(st01.mono ?_).trans (st2.mono ?_)
      .intro s hs;exact⟨hs.1,PS hs.2 uX⟩
      .intro s hs;exact⟨PD hle1 hs.1,hs.2⟩
     have fin:∀(r':Vg)(b:Bool),r'.fr=r2.fr->r'.ps=r2.ps->r'.aF=r2.aF->r'.body=r2.body->Y'=Y2.aO l r'->v= .bool b->
      gq E B0 Y K w v Y' (.returned (.bool b)) (w2.putObj (K2.lp l) (.loop {({state:=dV r2.st,pending:=r2.pend.bind eB,fn:=Ih,tmps:=Ii,params:=r2.ps.toArray,assign:=r2.aF,body:=r2.body,defers:=D2}:Go.Loop) with state:=dV r'.st,pending:=r'.pend.bind eB})):=by
      intro r' b h1 h2 h3 h4 h5 h6;have Ij:=Step.aO (new:=newer Y Y2) hs2.ok hs2.hB (r':=r') hl2 h1 h2 h3 h4 Ab;subst h5 h6;have jZ:=fI.trans Ij;exact⟨K2,.bool b,jZ.ok,hs2.st,jZ⟩
     have hend:=fun jump=>run_endRound (P:=E.P) jump Ab;rw[qU] at hend;cases e2 with
     |normal=>
      cases x<;>simp only[bX] at hx2;simp only[iE,iR] at hv;refine⟨_,_,hend none,?_⟩;have:=fin {r2 with st:=0,pend:=none} true rfl rfl rfl rfl hv.2.symm hv.1.symm;rw[qU] at this;exact this
     |exit i=>
      cases x<;>simp only[bX] at hx2;subst hx2;simp only[iE,iR] at hv;refine⟨_,_,hend (some (.exit i)),?_⟩;have:=fin {r2 with st:=2,pend:=some (.exit i)} false rfl rfl rfl rfl hv.2.symm hv.1.symm;rw[qU] at this;exact this
     |ret=>
      cases x<;>simp only[bX] at hx2;simp only[iE,iR] at hv;refine⟨_,_,hend (some .ret),?_⟩;have:=fin {r2 with st:=2,pend:=some .ret} false rfl rfl rfl rfl hv.2.symm hv.1.symm;rw[qU] at this;exact this
    .simp at hv
   .simp at hv
  |exit i=>simp at hv|ret=>simp at hv
 .simp at hv
theorem Ik (hS:iY E S.code){l:Nat}{args:List V}{v:V}(hv:fF S l args Y=some (v,Y')):Y.next<=Y'.next:=by
 unfold fF at hv;simp only[iP] at hv;obtain⟨r,hl,hv⟩:=hv;split at hv
 .simp only[iP] at hv;obtain⟨⟨e1,Rb,Y1⟩,jC,hv⟩:=hv;cases e1 with
  |normal=>
   simp only[iP] at hv;obtain⟨r1,hl1,hv⟩:=hv;split at hv
   .simp only[iP] at hv;obtain⟨⟨e2,RX,Y2⟩,hbody,r2,hl2,hv⟩:=hv;split at hv
    .have h1:=(hS _ _ _ _ _ _ jC).1;have h2:Y1.next<=Y2.next:=(hS _ _ _ _ _ _ hbody).1;have h3:Y'.next=Y2.next:=by
      cases e2<;>simp only[iE,iR] at hv<;>obtain⟨_,rfl⟩:=hv<;>rfl
     omega
    .simp at hv
   .simp at hv
  |exit i=>simp at hv|ret=>simp at hv
 .simp at hv
end
section
variable {E:Env}{S:R8}{K K':Ra}{T T':Nat->Nat}{w w':World}{Y Y':qd}{B0:Nat}
theorem u7 {n:Nat}{x y:V}(hp:Q9 x=true)(h:Rf n Y x=some y):y=x:=by
 cases n with
 |zero=>simp[Rf] at h|succ n=>unfold Rf at h;simp only[hp,if_true,iE] at h;exact h.symm
theorem Ac {f:V->Option V}{l r:List V}(h:l.mapM f=some r)(g:V->V)(hf:∀i (hi:i<l.length) y,f l[i]=some y->y=g l[i]):r=l.map g:=by obtain⟨h1,h2⟩:=mapM_some h;refine List.ext_getElem (by simp[h1]) (fun i hi hi'=>?_);obtain⟨h3,h4⟩:=h2 i (by omega);simp only[List.getElem_map];exact hf i (by omega) _ h4
theorem oP {l:List V}(h:Ry l=true){i:Nat}(hi:i<l.length):Q9 l[i]=true:=by
 have:=iG h i hi
 rwa[cZ hi] at this
theorem Ad {n:Nat}{c:Cap}{l:List V}{y:V}(hp:Ry l=true)(h:Rf n Y (.tX c l)=some y):y= .tX .sh l:=by
 cases n with
 |zero=>simp[Rf] at h|succ n=>
  unfold Rf at h;split at h
  .rename_i hc;simp only[iE] at h;subst h;cases c<;>simp only[Q9,PE] at hc;rfl
  .simp only[Py] at h;obtain⟨r,hr,rfl⟩:=h;have:=Ac hr id (fun i hi y hy=>u7 (oP hp hi) hy);rw[this,List.map_id]
theorem Il {x:V}(hp:Q9 x=true):aN x=x:=by
 cases x with
 |tX c l=>cases c<;>simp only[Q9,PE] at hp;rfl|_=>rfl
theorem Im {n:Nat}{x y:V}(hp:Q9 (aN x)=true)(h:Rf n Y x=some y):y=aN x:=by
 cases x with
 |tX c l=>exact Ad (by simpa [aN,Q9] using hp) h|_=>exact u7 hp h
theorem Io {n:Nat}{x y:V}(hp:Q9 (er x)=true)(h:Rf n Y x=some y):y=er x:=by
 cases x with
 |tX c l=>exact Ad (by simpa [er,Q9] using hp) h|agg cs=>
  have hp':Ry (cs.map aN)=true:=by simpa [er,Q9] using hp
  have hpi:∀i (hi:i<cs.length),Q9 (aN cs[i])=true:=fun i hi=>by have:=oP hp' (i:=i) (by simpa using hi);simpa using this
  cases n with
  |zero=>simp[Rf] at h|succ n=>
   unfold Rf at h;split at h
   .rename_i hc;simp only[iE] at h;subst h;have hc':Ry cs=true:=(by simpa [Q9] using hc);show V.agg cs=V.agg (cs.map aN);congr 1;refine List.ext_getElem (by simp) (fun i hi hi'=>?_);simp only[List.getElem_map];exact(Il (oP hc' hi)).symm
   .simp only[Py] at h;obtain⟨r,hr,rfl⟩:=h;show V.agg r=V.agg (cs.map aN);rw[Ac hr aN (fun i hi y hy=>Im (hpi i hi) hy)]
 |_=>exact u7 hp h
theorem j4 {a b:List V}{ca cb:Array Value}(h:RelA K T w a ca)(g:RelA K T w b cb):RelA K T w (a++b) (ca++cb):=by
 obtain⟨h1,h2⟩:=h;obtain⟨g1,g2⟩:=g;refine⟨by simp[h1,g1],fun i hi=>?_⟩;have hi':i<a.length+b.length:=by simpa using hi
 by_cases hlt:i<a.length
 .have e1:(a++b).getD i Lv=a.getD i Lv:=by simp[List.getD,List.getElem?_append_left hlt]
  have e2:(ca++cb).getD i undef=ca.getD i undef:=by simp only[Qz];rw[Array.getElem?_append_left (by omega)]
  rw[e1,e2];exact h2 i hlt
 .have e1:(a++b).getD i Lv=b.getD (i-a.length) Lv:=by simp[List.getD,List.getElem?_append_right (Nat.le_of_not_lt hlt)]
  have e2:(ca++cb).getD i undef=cb.getD (i-a.length) undef:=by simp only[Qz];rw[Array.getElem?_append_right (by omega),<-h1]
  rw[e1,e2];exact g2 _ (by omega)
theorem Ae {l r:List V}{cl:Array Value}{n:Nat}{K2:Ra}{T2:Nat->Nat}(h:RelA K T w l cl)(hm:l.mapM (Rf n Y)=some r)(hx:∀x y c,x∈l->Rel K T w x c->Rf n Y x=some y->Rel K2 T2 w y c):RelA K2 T2 w r cl:=by
 obtain⟨h1,h2⟩:=h;obtain⟨m1,m2⟩:=mapM_some hm;refine⟨by omega,fun i hi=>?_⟩;obtain⟨h3,h4⟩:=m2 i (by omega);have:=h2 i (by omega);rw[cZ (show i<l.length by omega)] at this;rw[cZ h3];exact hx _ _ _ (Qy _) this h4
theorem Ip (hE:TU E)(h:au E B0 Y K w):qR E K.I K.IM w:=
 ⟨fun b o hi=>(h.I b o hi).1,fun b hi=>(h.IM b hi).1,fun g cs hg=>(h.glob g cs hg).pure (by simpa [Q9] using hE.flat g cs hg) (fun _ _ h=>⟨h,rfl⟩) (fun _ h=>⟨h,rfl⟩)⟩
theorem Iq (hE:TU E)(h:au E B0 Y K w):qR E (fun b o=>∃v,w.cell? (at_ b o)=some v) (fun b=>∃es aG,w.heap[b]? =some (.map es aG)) w:=
 ⟨fun _ _ hi=>hi,fun _ hi=>hi,fun g cs hg=>(h.glob g cs hg).pure (by simpa [Q9] using hE.flat g cs hg) (fun b o hi=>⟨(h.I b o hi).1,rfl⟩) (fun b hi=>⟨(h.IM b hi).1,rfl⟩)⟩
theorem Af (hE:TU E)(hS:kY E S.call)(h:au E B0 Y K w)(hB:B0<=w.heap.size)(hA:∀s,K.A s->s<Y.next){d:Nat}{fv:V}{cf:Value}{args:List V}{Ru:Array Value}{v:V}(hfn:∃f a b,fv= .fn (.func f) a b)(hv:bG E S d Y fv args=some (v,Y'))(rf:Rel K Y.top w fv cf)(ra:RelA K Y.top w args Ru):
 Y.next<=Y'.next/\∃f first cap,cf= .func (.func f) first cap/\aaf E f/\CallsIn Fence.wide 0 E.P f (first++Ru++cap) w (gq E B0 Y K w v Y'):=by
 obtain⟨f,a,b,rfl⟩:=hfn;unfold bG at hv
 .dsimp only at hv;cases rf with
  |fn _ _ _ av bv ha hb lu lC=>
  have lD:RelA K Y.top w (a++args++b) (av++Ru++bv):=j4 (j4 ⟨ha,lu⟩ ra) ⟨hb,lC⟩;split at hv
  .obtain⟨h1,h2,h3⟩:=hS _ _ _ _ _ _ hv;exact⟨h1,f,av,bv,rfl,h2,h3 none B0 K w _ h hB hA lD⟩
  .simp only[iP] at hv;obtain⟨az,has,r,hr,hv⟩:=hv;split at hv
   .rename_i hcl;simp only[iE,iR] at hv;obtain⟨rfl,rfl⟩:=hv;obtain⟨p1,p2⟩:=abo hE hS hr;refine⟨mF _,f,av,bv,rfl,p1,?_⟩;simp only[QA,P6] at hcl;rcases hcl with hcl|hcl
    .have vg:RelA (Ra.lend K.I K.IM) (fun _=>0) w az (av++Ru++bv):=(by refine Ae lD has (fun x y c hx gQ hxy=>?_);have hp:=hcl x hx;rw[Io hp hxy];exact(zA gQ).pure hp (fun _ _ h=>⟨h,rfl⟩) (fun _ h=>⟨h,rfl⟩));refine(p2 _ _ w _ (Ip hE h) vg).mono ?_;intro e w' hp;cases e with
     |returned c=>obtain⟨hb',hr'⟩:=hp;have st:=Step.grow (new:=newer Y Y) h hB hb';exact⟨_,hr'.mQ (fun _ _ h=>⟨h,rfl⟩) (fun _ h=>⟨h,rfl⟩),st.ok,hA,st⟩
     |panicked ch=>exact hp.elim|outgrown=>exact hp.elim
    .have vg:RelA (Ra.lend (fun b o=>∃v,w.cell? (at_ b o)=some v) (fun b=>∃es aG,w.heap[b]? =some (.map es aG))) (fun _=>0) w az (av++Ru++bv):=(by refine Ae lD has (fun x y c hx gQ hxy=>?_);exact(qQ (T':=fun _=>0) h 20 x y c gQ hxy).mQ (fun _ _ h=>⟨h.2,rfl⟩) (fun _ h=>⟨h.2,rfl⟩));refine(p2 _ _ w _ (Iq hE h) vg).mono ?_;intro e w' hp;cases e with
     |returned c=>obtain⟨hb',hr'⟩:=hp;have st:=Step.grow (new:=newer Y Y) h hB hb';exact⟨_,hr'.flat hcl,st.ok,hA,st⟩
     |panicked ch=>exact hp.elim|outgrown=>exact hp.elim
   .simp at hv
theorem Ir (hE:TU E)(hS:kY E S.call)(h:au E B0 Y K w)(hB:B0<=w.heap.size){st:Nat}(hst:¬K.A st){fv:V}{cf:Value}{args:List V}{Ru:Array Value}{v:V}(hv:iw E S Y st fv args=some (v,Y'))(rf:Rel K Y.top w fv cf)(ra:RelA K Y.top w args Ru):
 Y'.next=Y.next/\∃f first cap,cf= .func (.func f) first cap/\aaf E f/\CallsIn Fence.wide 0 E.P f (first++Ru++cap) w (fun e w'=>∃c K',e= .returned c/\Rel K' Y'.top w' v c/\Step E B0 (· =st) Y K w Y' K' w'):=by
 unfold iw at hv;cases hv
theorem mR (hE:TU E){f:FuncId}(hb:aaf E f)(args:Array Value)(w:World):(callFunc f args).run E.P w= .ok (.enter f args) w:=by obtain⟨fn,c,hf,hc⟩:=hb;have hn:=hE.name f fn hf;simp[callFunc,hf,hc,hn]
theorem vk (hE:TU E)(hS:Sound E S){fr fr':Fr}{a:Act}{n:Nat}{ds:iF}(hs:St E B0 Y K w fr a n ds){st:Nat}(hst:¬K.A st){o:Oper}{v:V}(hop:opC E S fr Y st o=some (v,fr',Y')):fr'=fr/\Y.next<=Y'.next/\(∀next Q ro,(∀c w' K',Rel K' Y'.top w' v c->Step E B0 (fun s=>s=st\/newer Y Y' s) Y K w Y' K' w'->next (a.put o.dst c) w')->
   o.wpIn (FW ro) 0 E.P a w next Q):=by
 have hdone:∀{v Y'},fZ E B0 (· =st) Y K w (execOp a.eval o) v Y'->(∀c,o.op≠ .defer c)->∀next Q ro,(∀c w' K',Rel K' Y'.top w' v c->Step E B0 (fun s=>s=st\/newer Y Y' s) Y K w Y' K' w'->next (a.put o.dst c) w')->
  o.wpIn (FW ro) 0 E.P a w next Q:=fun hd ho next Q ro hn=>Hw ho hd (fun c w' K' hr hst=>hn c w' K' hr (hst.mono (fun _ h=>.inl h)))
 unfold opC at hop;split at hop
 .rename_i c hc;have hnd:∀d,o.op≠ .defer d:=fun d hd=>by rw[hc] at hd;cases hd
  split at hop
  .rename_i b hb;simp only[Py,iR] at hop;obtain⟨⟨v1,Y1⟩,hv,rfl,rfl,rfl⟩:=hop;have hsame:=zW hv;refine⟨rfl,by rw[hsame.1];exact mF _,hdone ?_ hnd⟩;have hargs:=jY hs.ok hs.fr c.args;have hex:execOp a.eval o=builtin b c.argTypes o.type (c.args.map fun|.const _=>true|_=>false) (c.args.map a.eval):=by unfold execOp;simp only[hc];unfold resolve;simp only[hb];rfl
   rw[hex];exact G7 hs.ok hs.hB hst hargs hv
  .rename_i f hf;split at hop
   .simp only[Py,iR] at hop;obtain⟨⟨v1,Y1⟩,hv,rfl,rfl,rfl⟩:=hop;obtain⟨hn1,g,first,cap,hcf,hbody,hcall⟩:=Ir hE hS.call hs.ok hs.hB hst hv (fV hs.ok hs.fr f) (jY hs.ok hs.fr c.args);refine⟨rfl,by rw[hn1];exact mF _,fun next Q ro hn=>⟨fun _ _=>trivial,?_⟩⟩;rw[oK _ _ hnd];have hex:(execOp a.eval o).run E.P w= .ok (.enter g (first++c.args.map a.eval++cap)) w:=(by unfold execOp;simp only[hc];unfold resolve;simp only[hf,hcf,Deferred.ofValue,Sem.run_bind,Sem.run_pure,Result.andThen_ok,invoke];exact mR hE hbody _ _);rw[hex,Oper.uponIn_enter];refine⟨fun hd=>by simp[FW,Fence.wide] at hd,?_⟩;have h2:CallsIn (FW ro) (0-1) E.P g (first++c.args.map a.eval++cap) w (fun e w'=>∃c K',e= .returned c/\Rel K' Y1.top w' v1 c/\Step E B0 (· =st) Y K w Y1 K' w'):=hcall;refine h2.mono ?_;intro e w' hp;obtain⟨cv,K',rfl,r1,st1⟩:=hp;exact hn cv w' K' r1 (st1.mono (fun _ h=>.inl h))
   simp only[Py,iR] at hop;obtain⟨⟨v1,Y1⟩,hv,rfl,rfl,rfl⟩:=hop;have hcases:(∃g a b,fr.ev E f= .fn (.func g) a b)\/∃l,fr.ev E f= .fn (.yield l) [] []:=by
    unfold bG at hv;split at hv
    .rename_i g a b he;exact .inl ⟨g,a,b,he⟩
    .rename_i l he;exact .inr ⟨l,he⟩
    .simp at hv
   rcases hcases with hfn| ⟨l,hy⟩
   rotate_left
   .have hv':fF S l (c.args.toList.map (fr.ev E)) Y=some (v1,Y1):=(by rw[hy] at hv;exact hv);obtain⟨hn1,fn,tmps,aF,body,lg,vo⟩:=Ic hS.code hs.ok hs.hB hs.st hv' (jY hs.ok hs.fr c.args);have hcf:a.eval f= .func (.yield (K.lp l)) #[] #[]:=(by have:=fV hs.ok hs.fr f;rw[hy] at this;generalize a.eval f=cf at this;cases this;rfl);refine⟨rfl,hn1,fun next Q ro hn=>⟨fun _ _=>trivial,?_⟩⟩;rw[oK _ _ hnd];have hex:(execOp a.eval o).run E.P w= .ok (.round (K.lp l) fn tmps aF body) w:=(by unfold execOp;simp only[hc];unfold resolve;simp only[hf,hcf,Deferred.ofValue,Sem.run_bind,Sem.run_pure,Result.andThen_ok,invoke];simpa using lg);rw[hex,Oper.uponIn_round];refine⟨fun hd=>by simp[FW,Fence.wide] at hd,?_⟩;have h2:RoundIn (FW ro) (0-1) E.P (K.lp l) fn tmps aF body w (gq E B0 Y K w v1 Y1):=vo;refine h2.mono ?_;intro e w' hp;cases e with
    |returned cv=>obtain⟨K',r1,_,_,st1⟩:=hp;exact hn cv w' K' r1 (st1.mono (fun _ h=>.inr h))
    |panicked ch=>exact hp.elim|outgrown=>exact hp.elim
   obtain⟨hn1,g,first,cap,hcf,hbody,hcall⟩:=Af hE hS.call hs.ok hs.hB hs.st hfn hv (fV hs.ok hs.fr f) (jY hs.ok hs.fr c.args);refine⟨rfl,hn1,fun next Q ro hn=>⟨fun _ _=>trivial,?_⟩⟩;rw[oK _ _ hnd];have hex:(execOp a.eval o).run E.P w= .ok (.enter g (first++c.args.map a.eval++cap)) w:=by unfold execOp;simp only[hc];unfold resolve;simp only[hf,hcf,Deferred.ofValue,Sem.run_bind,Sem.run_pure,Result.andThen_ok,invoke];exact mR hE hbody _ _
   rw[hex,Oper.uponIn_enter];refine⟨fun hd=>by simp[FW,Fence.wide] at hd,?_⟩;have h2:CallsIn (FW ro) (0-1) E.P g (first++c.args.map a.eval++cap) w (gq E B0 Y K w v1 Y1):=hcall;refine h2.mono ?_;intro e w' hp;cases e with
   |returned cv=>obtain⟨K',r1,_,_,st1⟩:=hp;exact hn cv w' K' r1 (st1.mono (fun _ h=>.inr h))
   |panicked ch=>exact hp.elim|outgrown=>exact hp.elim
  .simp at hop
 .simp at hop
 .rename_i hnc hnd;simp only[Py,iR] at hop;obtain⟨⟨v1,Y1⟩,hv,rfl,rfl,rfl⟩:=hop;have hsame:=zX hv;exact⟨rfl,by rw[hsame.1];exact mF _,hdone (G6 hs.ok hs.hB hs.fr hst hv) hnd⟩
end
section
variable (E:Env)(S:R8)
def opsL (ops:List Oper)(base:Nat):List Nat->Fr->qd->Option (Fr×qd)
 | [],fr,Y=>some (fr,Y)|i::l,fr,Y=>(Tj E S ops base i fr Y).bind fun (fr,Y)=>opsL ops base l fr Y
theorem Iu (all:List Oper)(base:Nat):∀(os:List Oper)(k:Nat)(fr:Fr)(Y:qd),(∀j,os[j]? =all[k+j]?)->
 opsE E S all (base+k) os fr Y=opsL E S all base (List.range' k os.length) fr Y:=by
 intro os;induction os with
 |nil=>intro k fr Y _;rfl|cons o os ih=>
  intro k fr Y h;have h0:all[k]? =some o:=by simpa using (h 0).symm
  have ih':=fun fr Y=>ih (k+1) fr Y (fun j=>by have:=h (j+1);simpa [Qv,Nat.add_comm 1 j] using this);simp only[List.length_cons,List.range'_succ,opsL,Tj,h0,opsE];cases hwt:Sq all fr o with
  |none=>rfl|some t=>
  simp only[Option.bind_some];split
  .cases hop:opC E S fr Y (base+k) o with
   |none=>rfl|some r=>obtain⟨v,Rb,Y1⟩:=r;exact ih' _ _
  .exact ih' _ _
theorem Ah (ops:Array Oper)(base:Nat)(fr:Fr)(Y:qd):opsE E S ops.toList base ops.toList fr Y=opsL E S ops.toList base (List.range ops.size) fr Y:=by have:=Iu E S ops.toList base ops.toList 0 fr Y (fun j=>by simp);rw[Nat.add_zero] at this;rw[this,List.range_eq_range',Array.length_toList]
end
section
variable {E:Env}{S:R8}{K K':Ra}{w w':World}{Y Y':qd}{B0:Nat}{fr fr':Fr}{a:Act}{n:Nat}{ds:iF}
theorem mU (hf:bH K Y.top w fr a.tmps)(ops:Array Oper)(o:Oper)(hsz:gN a.tmps.size ops.toList=true){t:Bool}(hv:Sq ops.toList fr o=some t):
 Region.wanted o (yielded ops a.tmps)=t:=by
 unfold Region.wanted;unfold Sq at hv;cases hg:o.guard with
 |none=>rw[hg] at hv;exact P8 hv|some g=>
  obtain⟨j,want⟩:=g;rw[hg] at hv;simp only at hv⊢;cases hd:(ops.toList[j]?).bind (·.dst) with
  |none=>
   have hd':(ops[j]?).bind (·.dst)=none:=by simpa using hd
   simp only[hd,iE] at hv;simp only[yielded,hd',<-hv];rfl
  |some t=>
   have hd':(ops[j]?).bind (·.dst)=some t:=by simpa using hd
   have ht:t<a.tmps.size:=by
    cases ho:ops[j]? with
    |none=>simp[ho] at hd'|some o'=>have hm:o'∈ops.toList:=(by simpa using Array.mem_of_getElem? ho);simp only[gN,P6] at hsz;have h1:=hsz o' hm;have h2:o'.dst=some t:=(by simpa [ho] using hd');rw[h2] at h1;simpa using h1
   have hr:=hf t;have hget:a.tmps[t]? =some (a.tmps.getD t undef):=by simp[Array.getD,ht]
   simp only[hd] at hv;simp only[yielded,hd',Option.bind_some,hget];generalize a.tmps.getD t undef=c at hr;generalize fr.tm t=x at hr hv;cases hr<;>simp only[iE,reduceCtorEq] at hv<;>first|exact hv| (rw[<-hv];rfl)
theorem lF (h:au E B0 Y K w)(k:Nat):au E B0 {Y with next:=k} K w:=⟨h.obj,h.own,h.I,h.IM,h.loop,h.glob,h.rb,h.D⟩
theorem Iw (hS:Sound E S){st:Nat}{o:Oper}{v:V}(hop:opC E S fr Y st o=some (v,fr',Y')):fr'=fr/\Y.next<=Y'.next:=by
 unfold opC at hop;split at hop
 .split at hop
  .simp only[Py,iR] at hop;obtain⟨⟨v1,Y1⟩,hv,rfl,rfl,rfl⟩:=hop;exact⟨rfl,by rw[(zW hv).1];exact mF _⟩
  .split at hop
   .simp only[Py,iR] at hop;obtain⟨⟨v1,Y1⟩,hv,rfl,rfl,rfl⟩:=hop;refine⟨rfl,?_⟩;unfold iw at hv;cases hv
   simp only[Py,iR] at hop;obtain⟨⟨v1,Y1⟩,hv,rfl,rfl,rfl⟩:=hop;refine⟨rfl,?_⟩;unfold bG at hv;split at hv
   .split at hv
    .exact(hS.call _ _ _ _ _ _ hv).1
    .simp only[iP] at hv;obtain⟨_,_,_,_,hv⟩:=hv;split at hv
     .simp only[iE,iR] at hv;rw[hv.2];exact mF _
     .simp at hv
   .exact Ik hS.code hv
   .simp at hv
  .simp at hop
 .simp at hop
 .simp only[Py,iR] at hop;obtain⟨⟨v1,Y1⟩,hv,rfl,rfl,rfl⟩:=hop;exact⟨rfl,by rw[(zX hv).1];exact mF _⟩
theorem j6 (hS:Sound E S)(ops:List Oper)(base:Nat):∀(l:List Nat)(fr:Fr)(Y:qd),opsL E S ops base l fr Y=some (fr',Y')->Y.next<=Y'.next:=by
 intro l;induction l with
 |nil=>intro fr Y h;simp only[opsL,iE,iR] at h;rw[h.2];exact mF _|cons i l ih=>
  intro fr Y h;simp only[opsL,iP] at h;obtain⟨⟨Rb,Y1⟩,hs,h⟩:=h;refine PD ?_ (ih _ _ h);unfold Tj at hs;split at hs
  .simp only[iE,iR] at hs;rw[hs.2];exact mF _
  .simp only[iP] at hs;obtain⟨t,_,hs⟩:=hs;split at hs
   .simp only[Py,iR] at hs;obtain⟨⟨v,RX,Y2⟩,hop,rfl,rfl⟩:=hs;exact(Iw hS hop).2
   .simp only[iE,iR] at hs;rw[hs.2];exact mF _
theorem vv (hE:TU E)(hS:Sound E S)(ops:Array Oper)(base:Nat)(hops:gN n ops.toList=true)(ro:Option Nat)(Q:Exit->Act->World->Prop):
 ∀(l:List Nat)(fr:Fr)(Y:qd)(K:Ra)(w:World)(a:Act),opsL E S ops.toList base l fr Y=some (fr',Y')->l.Nodup->(∀i∈l,i<ops.size)->St E B0 Y K w fr a n ds->base+ops.size<=Y.next->(∀i∈l,¬K.A (base+i))->
  (∀a' K' w',St E B0 Y' K' w' fr' a' n ds->Step E B0 (fun s=>(base<=s/\s<base+ops.size)\/newer Y Y' s) Y K w Y' K' w'->Q .normal a' w')->wpOpsIn (FW ro) 0 E.P ops Q l a w:=by
 intro l;induction l with
 |nil=>intro fr Y K w a hl _ _ hs _ _ hq;simp only[opsL,iE,iR] at hl;obtain⟨rfl,rfl⟩:=hl;exact hq a K w hs (.refl hs.ok)
 |cons i l ih=>
  intro fr Y K w a hl hnd hlt hs hbase iH hq;simp only[opsL,iP] at hl;obtain⟨⟨Rb,Y1⟩,hstep,hl⟩:=hl;have hil:i∉l:=(Qe.1 hnd).1;have hi:i<ops.size:=hlt i (by simp);have hoi:ops[i]? =some ops[i]:=by simp[hi]
  have lG:ops.toList[i]? =some ops[i]:=by simpa using hoi
  simp only[Tj,lG,iP] at hstep;obtain⟨t,hwv,hstep⟩:=hstep;have hw:=mU hs.fr ops ops[i] (by rw[hs.sz];exact hops) hwv;have hdst:∀t,ops[i].dst=some t->t<n:=by intro t ht;simp only[gN,P6] at hops;have:=hops ops[i] (by simp);rw[ht] at this;simpa using this
  unfold wpOpsIn;simp only[hoi,hw];split at hstep
  .rename_i hwt;simp only[Py,iR] at hstep;obtain⟨⟨v,RX,Y2⟩,hop,rfl,rfl⟩:=hstep;obtain⟨rfl,hnx,hwp⟩:=vk hE hS hs (iH i (by simp)) hop;dsimp only at hl;simp only[hwt,if_true];have hA1:∀{K1:Ra}{w1:World},Step E B0 (fun s=>s=base+i\/newer Y Y2 s) Y K w Y2 K1 w1->(∀s,K1.A s->s<Y2.next)/\∀j∈l,¬K1.A (base+j):=by
    intro K1 w1 st;refine⟨fun s hsA=>?_,fun j hj oQ=>?_⟩
    .rcases st.A s hsA with h1|h1|h1
     .have:=hs.st s h1;omega
     .omega
     .exact h1.2
    .have hji:j≠i:=fun e=>hil (e▸hj);rcases st.A _ oQ with h1|h1|h1
     .exact iH j (by simp[hj]) h1
     .omega
     .have:=hlt j (by simp[hj]);have:=h1.1;omega
   refine hwp _ _ ro (fun c w1 K1 hr st=>?_)
   .obtain⟨hA2,hA3⟩:=hA1 st;have hs1:St E B0 Y2 K1 w1 (RX.put ops[i].dst v) (a.put ops[i].dst c) n ds:=hs.put st hr hdst hA2;refine(ih _ _ K1 w1 _ hl (Qe.1 hnd).2 (fun j hj=>hlt j (by simp[hj])) hs1 (by omega) hA3) (fun a' K' w' hs' st'=>hq a' K' w' hs' ?_);refine(st.mono ?_).trans (st'.mono ?_)
    .intro s h1;rcases h1 with h1|h1
     .exact .inl ⟨by omega,by omega⟩
     .exact .inr ⟨h1.1,PS h1.2 (j6 hS _ _ _ _ _ hl)⟩
    .intro s h1;rcases h1 with h1|h1
     .exact .inl h1
     .exact .inr ⟨PD hnx h1.1,h1.2⟩
  .rename_i hwt;simp only[iE,iR] at hstep;obtain⟨rfl,rfl⟩:=hstep;have hs1:St E B0 Y K w (fr.put ops[i].dst Lv) (a.put ops[i].dst undef) n ds:=hs.put (new:=fun _=>False) (.refl hs.ok) (.undef _ _ _) hdst hs.st;have:=ih _ _ K w _ hl (Qe.1 hnd).2 (fun j hj=>hlt j (by simp[hj])) hs1 hbase (fun j hj=>iH j (by simp[hj]));simp only[hwt];exact⟨fun _ _=>trivial,this hq⟩
end
end Aq
end
section
namespace Aq
open Go
section
variable {X Key:Type}
def oU (step:Nat->X->Option X):List Nat->X->Option X
 | [],x=>some x|i::l,x=>(step i x).bind (oU step l)
theorem Ai (n:Nat)(step:Nat->X->Option X)(Ag:Key->X->X->Prop)(hrefl:∀k x,Ag k x x)(vB:∀k x y z,Ag k x y->Ag k y z->Ag k x z)(s:Nat->X)(T W:Nat->Key->Prop)(oV:∀i k,W i k->T i k)(hloc:∀i,i<n->∀x,(∀k,T i k->Ag k (s i) x)->∃y,step i x=some y/\(∀k,W i k->Ag k (s (i+1)) y)/\(∀k,¬W i k->Ag k x y))(hself:∀i,i<n->∀k,¬W i k->Ag k (s i) (s (i+1)))(pre:Nat->Nat->Prop)(hap:∀i j,i<n->j<i->pre j i\/((∀k,¬(W i k/\T j k))/\∀k,¬(W j k/\T i k)))(Iy:∀k x y,Ag k x y->Ag k y x):
 ∀(l done:List Nat)(x:X),l.Nodup->(∀i∈l,i<n/\i∉done)->(∀i,i<n->i∈done\/i∈l)->
  (∀l1 i l2,l=l1++i::l2->∀j,pre j i->j∈done\/j∈l1)->(∀i∈done,∀j,pre j i->j∈done)->
  (∀k m,m<=n->(∀j,j<n->W j k->(j∈done↔j<m))->Ag k (s m) x)->∃y,oU step l x=some y/\∀k,Ag k (s n) y:=by
 have Iz:∀k a b,a<=b->b<=n->(∀j,a<=j->j<b->¬W j k)->Ag k (s a) (s b):=by
  intro k a b hab hbn hw;induction b with
  |zero=>obtain rfl:a=0:=by omega
         exact hrefl _ _
  |succ b ih=>
   by_cases e:a=b+1
   .subst e;exact hrefl _ _
   .exact vB _ _ _ _ (ih (by omega) (by omega) (fun j h1 h2=>hw j h1 (by omega))) (hself b (by omega) k (hw b (by omega) (by omega)))
 intro l;induction l with
 |nil=>intro done x _ _ hall _ _ hinv;exact⟨x,rfl,fun k=>hinv k n (mF _) (fun j hj _=>⟨fun _=>hj,fun _=>by rcases hall j hj with h|h;exact h;cases h⟩)⟩
 |cons i l ih=>
  intro done x hnd hmem hall qV hclosed hinv;obtain⟨hin,vC⟩:=hmem i (by simp);have hil:i∉l:=(Qe.1 hnd).1;have hpre:∀j,pre j i->j∈done:=fun j hj=>by
   rcases qV [] i l rfl j hj with h|h
   .exact h
   .cases h
  have IB:∀k,T i k->Ag k (s i) x:=by
   intro k hk;refine hinv k i (by omega) (fun j hj hw=>⟨fun hjd=>?_,fun hji=>?_⟩)
   .rcases Nat.lt_trichotomy j i with h|h|h
    .exact h
    .subst h;exact absurd hjd vC
    .rcases hap j i hj h with hp| ⟨h1,_⟩
     .exact absurd (hclosed j hjd i hp) vC
     .exact absurd ⟨hw,hk⟩ (h1 k)
   .rcases hap i j hin hji with hp| ⟨_,h2⟩
    .exact hpre j hp
    .exact absurd ⟨hw,hk⟩ (h2 k)
  obtain⟨y,hy,IC,hyn⟩:=hloc i hin x IB;have IE:∀k m,m<=n->(∀j,j<n->W j k->(j∈i::done↔j<m))->Ag k (s m) y:=by
   intro k m hm hj;by_cases hw:W i k
   .have him:i<m:=(hj i hin hw).1 (by simp);have h1:Ag k (s (i+1)) (s m):=by
     refine Iz k (i+1) m him hm (fun j h1 h2 oW=>?_);have hjd:j∈done:=by
      have:=(hj j (by omega) oW).2 h2;rcases PI.1 this with e|e
      .omega
      .exact e
     rcases hap j i (by omega) (by omega) with hp| ⟨h3,_⟩
     .exact absurd (hclosed j hjd i hp) vC
     .exact h3 k ⟨oW,oV i k hw⟩
    exact vB _ _ _ _ (Iy _ _ _ h1) (IC k hw)
   .refine vB _ _ _ _ (hinv k m hm (fun j hjn oW=>?_)) (hyn k hw);have hji:j≠i:=fun e=>hw (e▸oW);rw[<-hj j hjn oW];simp[hji]
  obtain⟨z,hz,hzn⟩:=ih (i::done) y (Qe.1 hnd).2
   (fun j hj=>⟨(hmem j (by simp[hj])).1,fun h=>by
     rcases PI.1 h with e|e
     .exact hil (e▸hj)
     .exact(hmem j (by simp[hj])).2 e⟩)
   (fun j hj=>by
     rcases hall j hj with h|h
     .exact .inl (by simp[h])
     .rcases PI.1 h with e|e
      .exact .inl (by simp[e])
      .exact .inr e)
   (fun l1 j l2 hl k hk=>by
     rcases qV (i::l1) j l2 (by rw[hl];rfl) k hk with h|h
     .exact .inl (by simp[h])
     .rcases PI.1 h with e|e
      .exact .inl (by simp[e])
      .exact .inr e)
   (fun j hj k hk=>by
     rcases PI.1 hj with e|e
     .subst e;simp[hpre k hk]
     .simp[hclosed j e k hk])
   IE
  exact⟨z,by simp[oU,hy,hz],hzn⟩
end
section
variable {E:Env}{S:R8}{fr fr':Fr}{Y Y':qd}
theorem IG {st:Nat}{o:Oper}(h:∀x∈o.op.operands.toList,fr'.ev E x=fr.ev E x)(hd:fr'.d=fr.d)(aC:fr'.om=fr.om):aH E fr' Y st o=aH E fr Y st o:=by
 cases ho:o.op;all_goals
  rw[ho] at h;unfold aH;simp only[ho]
 all_goals try (simp only[hd];done)
 case move x=>simp only[h x (show x∈[x] from Qf.2 rfl),hd]
 case assign x=>simp only[h x (show x∈[x] from Qf.2 rfl),hd]
 case pick c x y=>simp only[h c (show c∈[c,x,y] from PN),h x (show x∈[c,x,y] from PV _ PN),h y (show y∈[c,x,y] from PV _ (PV _ PN)),hd]
 case box t x=>simp only[h x (show x∈[x] from Qf.2 rfl),hd]
 case load t x=>simp only[h x (show x∈[x] from Qf.2 rfl),hd]
 case nilCheck x=>simp only[h x (show x∈[x] from Qf.2 rfl),hd]
 case unOp u t x=>simp only[h x (show x∈[x] from Qf.2 rfl),hd]
 case convert t u x=>simp only[h x (show x∈[x] from Qf.2 rfl),hd]
 case sliceToArrayPointer t x=>simp only[h x (show x∈[x] from Qf.2 rfl),hd]
 case typeAssert x t u ok=>simp only[h x (show x∈[x] from Qf.2 rfl),hd]
 case makeInterface t x=>simp only[h x (show x∈[x] from Qf.2 rfl),hd]
 case fieldAddr t x f=>simp only[h x (show x∈[x] from Qf.2 rfl),hd]
 case field t x f=>simp only[h x (show x∈[x] from Qf.2 rfl),hd]
 case extract x f=>simp only[h x (show x∈[x] from Qf.2 rfl),hd]
 case store t x y=>simp only[h x (show x∈[x,y] from PN),h y (show y∈[x,y] from PV _ PN),hd,aC]
 case binOp b t x y u=>simp only[h x (show x∈[x,y] from PN),h y (show y∈[x,y] from PV _ PN),hd,aC]
 case makeSlice t x y=>simp only[h x (show x∈[x,y] from PN),h y (show y∈[x,y] from PV _ PN),hd,aC]
 case indexAddr t x y=>simp only[h x (show x∈[x,y] from PN),h y (show y∈[x,y] from PV _ PN),hd,aC]
 case index t x y=>simp only[h x (show x∈[x,y] from PN),h y (show y∈[x,y] from PV _ PN),hd,aC]
 case lookup t x y ok=>simp only[h x (show x∈[x,y] from PN),h y (show y∈[x,y] from PV _ PN),hd,aC]
 case mapUpdate t x y z=>simp only[h x (show x∈[x,y,z] from PN),h y (show y∈[x,y,z] from PV _ PN),h z (show z∈[x,y,z] from PV _ (PV _ PN)),hd]
 case insert t x y z=>simp only[h x (show x∈[x,y,z] from PN),h y (show y∈[x,y,z] from PV _ PN),h z (show z∈[x,y,z] from PV _ (PV _ PN)),hd]
 case build t parts=>
  have:(parts.toList.map fun (i,x)=>(i,fr'.ev E x))=parts.toList.map fun (i,x)=>(i,fr.ev E x):=by refine QL (fun p hp=>?_);show (p.1,fr'.ev E p.2)=(p.1,fr.ev E p.2);rw[h p.2 (show p.2∈parts.toList.map (·.2) from QE.2 ⟨p,hp,rfl⟩)]
  simp only[this]
 case buildSlice t len parts=>
  have:(parts.toList.map fun (i,x)=>(i,fr'.ev E x))=parts.toList.map fun (i,x)=>(i,fr.ev E x):=by refine QL (fun p hp=>?_);show (p.1,fr'.ev E p.2)=(p.1,fr.ev E p.2);rw[h p.2 (show p.2∈parts.toList.map (·.2) from QE.2 ⟨p,hp,rfl⟩)]
  simp only[this,hd]
 case makeFunc fn a b=>
  have h1:a.toList.map (fr'.ev E)=a.toList.map (fr.ev E):=QL (fun x hx=>h x (show x∈(a++b).toList by simp at hx⊢;exact .inl hx));have h2:b.toList.map (fr'.ev E)=b.toList.map (fr.ev E):=QL (fun x hx=>h x (show x∈(a++b).toList by simp at hx⊢;exact .inr hx));cases fn<;>first|rfl|simp only[h1,h2]
 case makeMap t r=>cases r<;>simp only[hd]
 case slice t x lo hi mx=>
  have h0:∀y,y=x\/lo=some y\/hi=some y\/mx=some y->fr'.ev E y=fr.ev E y:=fun y hy=>h y (show y∈(#[x]++lo.toArray++hi.toArray++mx.toArray).toList by rcases hy with rfl|rfl|rfl|rfl<;>simp);have hx:fr'.ev E x=fr.ev E x:=h0 x (.inl rfl);have h1:dx E fr' lo=dx E fr lo:=by
   cases lo with
   |none=>rfl|some y=>simp only[dx];rw[h0 y (by simp)]
  have h2:dx E fr' hi=dx E fr hi:=by
   cases hi with
   |none=>rfl|some y=>simp only[dx];rw[h0 y (by simp)]
  have h3:dx E fr' mx=dx E fr mx:=by
   cases mx with
   |none=>rfl|some y=>simp only[dx];rw[h0 y (by simp)]
  simp only[hx,h1,h2,h3]
theorem II {st:Nat}{o:Oper}(h:∀x∈o.op.operands.toList,fr'.ev E x=fr.ev E x)(hd:fr'.d=fr.d)(aC:fr'.om=fr.om):
 opC E S fr' Y st o=(opC E S fr Y st o).map fun (v,_,Y1)=>(v,fr',Y1):=by
 cases ho:o.op;case call c=>
  have h:∀x∈c.operands.toList,fr'.ev E x=fr.ev E x:=by rw[ho] at h;exact h
  unfold opC;simp only[ho];have hargs:c.args.toList.map (fr'.ev E)=c.args.toList.map (fr.ev E):=QL (fun x hx=>h x (by simp[Call.operands] at hx⊢;exact .inr hx));split
  .simp only[hargs,hd,aC];cases eu E fr.om (o.dst.map fun t=>(fr.d,E.cn t)) Y st _ c.argTypes (c.args.toList.map (fr.ev E))<;>rfl
  .rename_i f hc;have hf:fr'.ev E f=fr.ev E f:=h f (by simp[Call.operands,hc]);have aS:Vi E fr' o f=Vi E fr o f:=by unfold Vi;rw[hf]
   simp only[hargs,hd,hf,aS];cases Vi E fr o f
   .cases bG E S fr.d Y (fr.ev E f) (c.args.toList.map (fr.ev E))<;>rfl
   .cases iw E S Y st (fr.ev E f) (c.args.toList.map (fr.ev E))<;>rfl
  .rfl
 case defer=>unfold opC;simp only[ho];rfl
 all_goals
  have:=IG (Y:=Y) (st:=st) h hd aC;unfold opC;simp only[ho];rw[this];cases aH E fr Y st o<;>rfl
theorem mV {loc:Loc}{s:Nat}(h:Y'.obj loc=Y.obj loc):Y'.Rt loc s=Y.Rt loc s:=by simp only[qd.Rt,h]
theorem vD {loc:Loc}{s:Nat}(h:Y'.obj loc=Y.obj loc):Y'.aV loc s=Y.aV loc s:=by simp only[qd.aV,h]
def bC (Y Y':qd)(k:Key):Prop:=match k with
 |.obj l=>Y'.obj l=Y.obj l|.top=>Y'.top=Y.top|_=>True
def Reads (Y Y':qd)(r r':Option (V×qd)):Prop:=∀v Y1,r=some (v,Y1)->Y1=Y/\r'=some (v,Y')
theorem eH {v:V}:Reads Y Y' (some (v,Y)) (some (v,Y')):=fun v Y1 h=>by
 simp only[iE,iR] at h;exact⟨h.2.symm,by rw[h.1]⟩
theorem dR {U:Type}{r:Option U}(f:U->V):Reads Y Y' (r.map fun v=>(f v,Y)) (r.map fun v=>(f v,Y')):=by
 cases r with
 |none=>intro v Y1 h;cases h|some x=>exact eH
theorem gu {r:Option (V×qd)}:Reads Y Y' none r:=fun _ _ h=>by cases h
theorem kg {U:Type}{r:Option U}{f g:U->Option (V×qd)}(h:∀x,Reads Y Y' (f x) (g x)):Reads Y Y' (r.bind f) (r.bind g):=by
 cases r with
 |none=>exact gu|some x=>exact h x
theorem qW {c:Prop}[Decidable c]{r r' s s':Option (V×qd)}(h1:Reads Y Y' r r')(h2:Reads Y Y' s s'):Reads Y Y' (if c then r else s) (if c then r' else s'):=by split<;>assumption
theorem IJ {src dst:TypeId}{x:V}(h:∀k∈bB x,bC Y Y' k):jR E.P Y' src dst x=jR E.P Y src dst x:=by
 unfold jR;generalize E.P.underlying src=u1;generalize E.P.underlying dst=u2;cases u1 with
 |none=>cases x<;>cases u2<;>rfl|some d1=>
  cases u2 with
  |none=>cases x<;>cases d1<;>rfl|some d2=>
   cases x with
   |vw loc s off len cap aD ag=>have h1:Y'.obj loc=Y.obj loc:=h (.obj loc) (by simp[bB]);cases d2<;>cases d1<;>first|rfl|simp only[mV h1]
   |_=>cases d2<;>first|rfl| (cases d1<;>rfl)
theorem IK {t:TypeId}{x:V}{lo hi mx:Option V}(h:∀k∈bB x,bC Y Y' k):gM E.P Y' t x lo hi mx=gM E.P Y t x lo hi mx:=by
 unfold gM;generalize E.P.underlying t=u1;cases u1 with
 |none=>cases x<;>rfl|some d1=>
  cases x with
  |ref loc s off=>have h1:Y'.obj loc=Y.obj loc:=h (.obj loc) (by simp[bB]);cases d1<;>first|rfl|simp only[mV h1]
  |_=>cases d1<;>rfl
theorem IL {t:TypeId}{x k:V}{ok:Bool}(h:∀k∈bB x,bC Y Y' k):iV E.P Y' t x k ok=iV E.P Y t x k ok:=by
 unfold iV;cases x with
 |RB loc s=>have h1:Y'.obj loc=Y.obj loc:=h (.obj loc) (by simp[bB]);simp only[vD h1]|_=>rfl
theorem IQ {t:TypeId}{x:V}(h:∀k∈bB x,bC Y Y' k):fP E Y' t x=fP E Y t x:=by
 unfold fP;generalize E.P.underlying t=u1;cases u1 with
 |none=>cases x<;>rfl|some d1=>
  cases x with
  |RB loc s=>have h1:Y'.obj loc=Y.obj loc:=h (.obj loc) (by simp[bB]);cases d1<;>first|rfl|simp only[vD h1]
  |_=>cases d1<;>rfl
theorem IU {ag:Bool}{sz:Nat}{z x:V}(h:∀k∈bB x,bC Y Y' k):fE Y' ag sz z x=fE Y ag sz z x:=by
 unfold fE;cases x with
 |vw loc s off len cap aD ag=>have h1:Y'.obj loc=Y.obj loc:=h (.obj loc) (by simp[bB]);simp only[mV h1]|_=>rfl
def Local (W:Key->Prop)(Y Y':qd)(r r':Option (V×qd)):Prop:=
 ∀v Y1,r=some (v,Y1)->∃iI,r'=some (v,iI)/\fH Y Y1/\fH Y' iI/\(∀k,W k->bC Y1 iI k)/\(∀k,¬W k->bC Y Y1 k)/\∀k,¬W k->bC Y' iI k
theorem bC.refl (Y:qd)(k:Key):bC Y Y k:=by cases k<;>simp[bC]
theorem bC.chain {Y1 iI:qd}{k:Key}(h:bC Y Y' k)(h1:bC Y Y1 k)(h2:bC Y' iI k):bC Y1 iI k:=by
 cases k with
 |obj l=>exact Eq.trans (show iI.obj l=Y'.obj l from h2) (Eq.trans (show Y'.obj l=Y.obj l from h) (show Y1.obj l=Y.obj l from h1).symm)|top=>exact Eq.trans (show iI.top=Y'.top from h2) (Eq.trans (show Y'.top=Y.top from h) (show Y1.top=Y.top from h1).symm)|slot t=>trivial|rest=>trivial|nx=>trivial
theorem Reads.local {r r':Option (V×qd)}(h:Reads Y Y' r r'):Local (fun k=>k∈([]:List Key)) Y Y' r r':=fun v Y1 hr=>by
 obtain⟨h1,h2⟩:=h v Y1 hr;subst h1;exact⟨Y',h2,.refl _,.refl _,fun k hk=>absurd hk (List.not_mem_nil),fun k _=>.refl _ _,fun k _=>.refl _ _⟩
theorem Local.mono {W W':Key->Prop}{r r':Option (V×qd)}(h:Local W Y Y' r r')(hW:∀k,W k->W' k)(hT:∀k,W' k->bC Y Y' k):Local W' Y Y' r r':=fun v Y1 hr=>by
 obtain⟨iI,h1,h2,h3,h4,h5,h6⟩:=h v Y1 hr;refine⟨iI,h1,h2,h3,fun k hk=>?_,fun k hk=>h5 k (fun hw=>hk (hW k hw)),fun k hk=>h6 k (fun hw=>hk (hW k hw))⟩;by_cases hw:W k
 .exact h4 k hw
 .exact(hT k hk).chain (h5 k hw) (h6 k hw)
theorem Aj {loc:Loc}{st:Nat}{ob:Tk}{k:Key}(hk:k∉[Key.obj loc]):bC Y (Y.setObj loc st ob) k:=by
 cases k with
 |obj l=>have:l≠loc:=fun e=>hk (by simp[e]);show upd Y.obj loc _ l=Y.obj l;simp[upd,this]
 |top=>rfl|slot t=>trivial|rest=>trivial|nx=>trivial
theorem Ak {s n:Nat}{k:Key}(hk:k∉[Key.top]):bC Y (Y.Sl s n) k:=by
 cases k with
 |obj l=>rfl|top=>exact absurd (by simp) hk|slot t=>trivial|rest=>trivial|nx=>trivial
theorem oZ {loc:Loc}{st:Nat}{ob:Tk}{v:V}:Local (fun k=>k∈[Key.obj loc]) Y Y' (some (v,Y.setObj loc st ob)) (some (v,Y'.setObj loc st ob)):=fun v1 Y1 h=>by
 simp only[iE,iR] at h;obtain⟨rfl,rfl⟩:=h;refine⟨_,rfl,⟨rfl,rfl⟩,⟨rfl,rfl⟩,fun k hk=>?_,fun k hk=>Aj hk,fun k hk=>Aj hk⟩;obtain rfl:k= .obj loc:=by simpa using hk
 show upd Y'.obj loc _ loc=upd Y.obj loc _ loc;simp[upd]
theorem aU {W:Key->Prop}{r:Option (V×qd)}:Local W Y Y' none r:=fun _ _ h=>by cases h
theorem fJ {W:Key->Prop}{U:Type}{r:Option U}{f g:U->Option (V×qd)}(h:∀x,Local W Y Y' (f x) (g x)):Local W Y Y' (r.bind f) (r.bind g):=by
 cases r with
 |none=>exact aU|some x=>exact h x
theorem ko {W:Key->Prop}{c:Prop}[Decidable c]{r r' s s':Option (V×qd)}(h1:Local W Y Y' r r')(h2:Local W Y Y' s s'):Local W Y Y' (if c then r else s) (if c then r' else s'):=by split<;>assumption
theorem vE (ht:Y'.top=Y.top){s n:Nat}{v:V}:Local (fun k=>k∈[Key.top]) Y Y' (some (v,Y.Sl s n)) (some (v,Y'.Sl s n)):=fun v1 Y1 h=>by
 simp only[iE,iR] at h;obtain⟨rfl,rfl⟩:=h;refine⟨_,rfl,⟨rfl,rfl⟩,⟨rfl,rfl⟩,fun k hk=>?_,fun k hk=>Ak hk,fun k hk=>Ak hk⟩;obtain rfl:k= .top:=by simpa using hk
 show upd Y'.top s n=upd Y.top s n;rw[ht]
theorem IV {W:Key->Prop}{U:Type}{r:Option U}{f g:U->V×qd}(h:∀x,Local W Y Y' (some (f x)) (some (g x))):Local W Y Y' (r.map f) (r.map g):=by
 cases r with
 |none=>exact aU|some x=>exact h x
theorem Am {t:TypeId}{m k v:V}(h:∀q∈bB m,bC Y Y' q):
 Local (fun q=>q∈bB m) Y Y' ((fO E.P Y t m k v).map fun Y=>(Lv,Y)) ((fO E.P Y' t m k v).map fun Y=>(Lv,Y)):=by
 unfold fO;cases WZ E.P t with
 |none=>exact aU|some p=>
  simp only[Option.bind_some];split
  .cases m with
   |RB loc s=>
    have h1:Y'.obj loc=Y.obj loc:=h (.obj loc) (by simp[bB]);simp only[vD h1];cases Y.aV loc s with
    |none=>exact aU|some q=>simp only[Option.bind_some,Option.map_map];exact IV (fun x=>oZ)
   |_=>exact aU
  .exact aU
theorem IW {fr:Fr}{st:Nat}{o:Oper}{t:TypeId}{l c:V}(h:∀q∈Key.top::iy fr o,bC Y Y' q):
 Local (fun q=>q∈Key.top::iy fr o) Y Y' (jo E.P fr.om Y st (o.dst.map fun t=>(fr.d,t)) t l c) (jo E.P fr.om Y' st (o.dst.map fun t=>(fr.d,t)) t l c):=by
 unfold jo;exact aU
theorem vF {zeros:Bool}{st:Nat}{loc:Option Loc}{t:TypeId}{x y:V}(hy:∀q∈bB y,bC Y Y' q)(ht:Y'.top=Y.top):
 Local (fun q=>q∈[Key.top]) Y Y' (bT E.P false zeros Y st loc t x y) (bT E.P false zeros Y' st loc t x y):=by
 unfold bT;refine fJ (fun e=>fJ (fun sz=>fJ (fun SF=>fJ (fun ag=>fJ (fun z=>ko ?_ aU)))));rw[IU hy];refine fJ (fun ys=>ko ?_ aU);cases x with
 |tX c l=>
  simp only;refine ko ?_ aU;cases c with
  |own n s=>simp only[ht];exact ko (vE ht) aU|nil=>exact vE ht|full=>exact vE ht|sh=>exact aU
 |vw bJ s off len cap aD kX=>simp only[PE,false_and,and_false,if_false];exact aU|_=>exact aU
theorem qX {om:Bool}{loc:Option Loc}{st:Nat}{b:Builtin}{tys:Array TypeId}{args:List V}(hb:b= .len\/b= .cap\/b= .min\/b= .max)(h:∀x∈args,∀q∈bB x,bC Y Y' q):
 Reads Y Y' (eu E om loc Y st b tys args) (eu E om loc Y' st b tys args):=by
 rcases hb with rfl|rfl|rfl|rfl
 .rcases args with _| ⟨x,_| ⟨y,l⟩⟩
  .exact gu
  .refine kg (fun t=>?_);rw[IQ (h x (by simp))];exact dR _
  .exact gu
 .rcases args with _| ⟨x,_| ⟨y,l⟩⟩
  .exact gu
  .refine kg (fun t=>kg (fun e=>?_));cases x with
   |tX c l=>cases c<;>first|exact eH|exact gu
   |_=>exact gu
  .exact gu
 .rcases args with _| ⟨x,l⟩
  .exact gu
  .exact dR _
 .rcases args with _| ⟨x,l⟩
  .exact gu
  .exact dR _
theorem IX {loc:Option Loc}{st:Nat}{tys:Array TypeId}{args:List V}(h:∀x∈args,∀q∈bB x,bC Y Y' q)(ht:Y'.top=Y.top):
 Local (fun q=>q∈[Key.top]) Y Y' (eu E false loc Y st .append tys args) (eu E false loc Y' st .append tys args):=by
 rcases args with _| ⟨x,_| ⟨y,_| ⟨z,l⟩⟩⟩
 .exact aU
 .exact aU
 .refine fJ (fun t=>fJ (fun u=>?_));split
  .exact vF (h y (by simp)) ht
  .exact vF (h y (by simp)) ht
  .exact vF (h y (by simp)) ht
  .exact aU
 .exact aU
end
end Aq
end
