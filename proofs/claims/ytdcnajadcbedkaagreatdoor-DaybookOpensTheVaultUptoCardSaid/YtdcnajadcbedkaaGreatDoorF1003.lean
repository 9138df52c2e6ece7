import Derived.ControlIn
import Derived.RangeFuncLeaves
import Derived.RangeFuncRecord
import Derived.Scope
import Derived.Test.YtdcnajadcbedkaaGreatDoorF1002
set_option linter.all false
section
namespace aQ
open Go Go.RowKit
section
variable {E:Env}{B0:Nat}{Y:ah}{K:bA}{w:World}{new:Nat->Prop}{T:Nat->Nat}
def RelA (K:bA)(T:Nat->Nat)(w:World)(l:List V)(cl:Array Value):Prop:=l.length=cl.size/\∀i,i<l.length->Rel K T w (l.getD i aP) (cl.getD i undef)
theorem Wv {x:V}{cl:Array Value}(h:RelA K T w [x] cl):∃c,cl= #[c]/\Rel K T w x c:=by
 obtain⟨h1,h2⟩:=h;have hs:cl.size=1:=by simpa using h1.symm
 refine⟨cl[0],?_,?_⟩
 .apply Array.ext
  .simpa using hs
  .intro i h1 h2;obtain rfl:i=0:=RS
   rfl
 .have:=h2 0 aD
  rwa[GV RS] at this
theorem agR {x y:V}{cl:Array Value}(h:RelA K T w [x,y] cl):∃c d,cl= #[c,d]/\Rel K T w x c/\Rel K T w y d:=by
 obtain⟨h1,h2⟩:=h;have hs:cl.size=2:=by simpa using h1.symm
 refine⟨cl[0],cl[1],?_,?_,?_⟩
 .apply Array.ext
  .simpa using hs
  .intro i h1 h2;have:i=0\/i=1:=RS
   rcases this with rfl|rfl<;>rfl
 .have:=h2 0 aD
  rwa[GV RS] at this
 .have:=h2 1 aD
  rwa[GV RS] at this
theorem agS {x:V}{l:List V}{cl:Array Value}(h:RelA K T w (x::l) cl):∃c cs,cl.toList=c::cs/\Rel K T w x c/\l.length=cs.length/\∀i,i<l.length->Rel K T w (l.getD i aP) (cs.getD i undef):=by
 obtain⟨h1,h2⟩:=h;cases hc:cl.toList with
 |nil=>
  have:cl.size=0:=by rw[<-Array.length_toList,hc];rfl
  simp[this] at h1
 |cons c cs=>
  have hg:∀i,cl.getD i undef=(c::cs).getD i undef:=fun i=>by rw[<-hc,QV]
  have hl:cl.size=cs.length+1:=by rw[<-Array.length_toList,hc];rfl
  refine⟨c,cs,rfl,?_,by simp at h1;omega,fun i hi=>?_⟩
  .have:=h2 0 aD;rw[hg] at this;simpa using this
  .have:=h2 (i+1) dw;rw[hg] at this;simpa using this
theorem aqk (h:bH E B0 Y K w)(hB:B0<=w.heap.size){aj:Bool}{loc:Option Loc}{st:Nat}(hst:¬K.A st){b:Builtin}{tys:Array TypeId}{ty:TypeId}{consts:Array Bool}{args:List V}{dO:Array Value}{v:V}{Y':ah}(hr:RelA K Y.top w args dO)(hv:qN E aj loc Y st b tys args=some (v,Y')):vC E B0 (· =st) Y K w (builtin b tys ty consts dO) v Y':=by
 unfold qN at hv;split at hv
 .rename_i x;simp only[iP,aY,mF] at hv;obtain⟨t,ht,n,hn,rfl,rfl⟩:=hv;obtain⟨c,rfl,hx⟩:=Wv hr;exact .iw h ⟨_,aqd h ht hx hn,.int .i64 n⟩
 .rename_i x;simp only[iP] at hv;obtain⟨t,ht,e,he,hv⟩:=hv;obtain⟨c,rfl,hx⟩:=Wv hr;obtain⟨rfl,r⟩:=aqe (ty:=ty) ht (LH he) hv hx;exact .iw h r
 .rename_i x y;simp only[iP] at hv;obtain⟨t,ht,u,⟨tx,htx,hu⟩,hv⟩:=hv;obtain⟨c,d,rfl,hx,hy⟩:=agR hr;have he:Builtin.append_ tys ty #[c,d]=Builtin.append_ #[t,tx] ty #[c,d]:=by simp[Builtin.append_,ht,htx]
  show vC E B0 _ Y K w (do pure (.value (<-Builtin.append_ tys ty #[c,d]))) v Y';rw[he];split at hv
  .rename_i k;exact .uo (Ws h hB hst hx hy (fun _=>⟨k,hu⟩) (fun hf=>by cases hf) hv)
  .rename_i e;exact .uo (Ws h hB hst hx hy (fun hf=>by cases hf) (fun _=>.inl ⟨e,hu⟩) hv)
  .exact .uo (Ws h hB hst hx hy (fun hf=>by cases hf) (fun _=>.inr hu) hv)
  .simp at hv
 .rename_i x y;simp only[iP] at hv;obtain⟨t,ht,hv⟩:=hv;obtain⟨c,d,rfl,hx,hy⟩:=agR hr;have he:Builtin.copy_ tys ty #[c,d]=Builtin.copy_ #[t,t] ty #[c,d]:=by simp[Builtin.copy_,ht]
  show vC E B0 _ Y K w (do pure (.value (<-Builtin.copy_ tys ty #[c,d]))) v Y';rw[he];exact .uo (aqb h hB hx hy hv)
 .rename_i x;simp only[iP] at hv;obtain⟨t,ht,hv⟩:=hv;obtain⟨c,rfl,hx⟩:=Wv hr;have he:Builtin.clear_ tys ty #[c]=Builtin.clear_ #[t] ty #[c]:=by simp[Builtin.clear_,ht]
  show vC E B0 _ Y K w (do pure (.value (<-Builtin.clear_ tys ty #[c]))) v Y';rw[he];exact .uo (aqc h hB hx hv)
 .rename_i x l;simp only[aY,mF] at hv;obtain⟨v',hv',rfl,rfl⟩:=hv;obtain⟨c,cs,hc,hx,hl,hrel⟩:=agS hr;obtain⟨c',r1,r2⟩:=agL l cs x v' c hl hrel hx hv';have he:Builtin.min_ tys ty dO=cs.foldlM Builtin.min2 c:=by unfold Builtin.min_;rw[hc]
  exact .iw (s:=Builtin.min_ tys ty dO) h ⟨c',by rw[he];exact r1,r2⟩
 .rename_i x l;simp only[aY,mF] at hv;obtain⟨v',hv',rfl,rfl⟩:=hv;obtain⟨c,cs,hc,hx,hl,hrel⟩:=agS hr;obtain⟨c',r1,r2⟩:=agM l cs x v' c hl hrel hx hv';have he:Builtin.max_ tys ty dO=cs.foldlM Builtin.max2 c:=by unfold Builtin.max_;rw[hc]
  exact .iw (s:=Builtin.max_ tys ty dO) h ⟨c',by rw[he];exact r1,r2⟩
 .simp at hv
end
def oW (ro:Option Nat):Fence:={Fence.wide with round:=ro}
structure He where
 l:List Deferred
 B:Nat
 nm:Bool
def mark (b:Nat):Deferred:=⟨.collected b, #[]⟩
structure St (E:Env)(B0:Nat)(Y:ah)(K:bA)(w:World)(fr:Fr)(a:Act)(n:Nat)(ds:He):Prop where
 ok:bH E B0 Y K w
 hB:B0<=w.heap.size
 fr:mU K Y.top w fr a.tmps
 sz:a.tmps.size=n
 df:∃bs:List Nat,a.defers=bs.map mark++ds.l/\bs.Nodup/\(∀b∈bs,K.D b/\ds.B<=b)/\(ds.nm=true->bs=[])
 st:∀s,K.A s->s<Y.next
 hD:ds.B<=w.heap.size
def nT:Ex->Exit->Prop
 |.normal,.normal=>True|.exit i,.exit j=>i=j|.ret,.ret=>True|_,_=>False
def newer (Y Y':ah)(s:Nat):Prop:=Y.next<=s/\s<Y'.next
def EK (E:Env)(B0 n:Nat)(ds:He)(Y:ah)(K:bA)(w:World)(e:Ex)(fr':Fr)(Y':ah):Exit->Act->World->Prop:=
 fun x a' w'=>nT e x/\∃K',St E B0 Y' K' w' fr' a' n ds/\Step E B0 (newer Y Y') Y K w Y' K' w'
def Hf (E:Env)(code:Code->Fr->ah->Option (Ex×Fr×ah)):Prop:=
 ∀c fr Y e fr' Y',code c fr Y=some (e,fr',Y')->Y.next<=Y'.next/\∀ro B0 K w a n ds,St E B0 Y K w fr a n ds->iI n c=true->(ro=none/\ds.nm=false\/kr c=true)->c.wpIn (oW ro) 0 E.P (EK E B0 n ds Y K w e fr' Y') a w
def wO (E:Env)(B0:Nat)(Y:ah)(K:bA)(w:World)(v:V)(Y':ah):Ending->World->Prop
 |.returned c,w'=>∃K',Rel K' Y'.top w' v c/\bH E B0 Y' K' w'/\(∀s,K'.A s->s<Y'.next)/\Step E B0 (newer Y Y') Y K w Y' K' w'|_,_=>False
def Ck (E:Env)(f:FuncId):Prop:=∃fn c,E.P.funcs[f]? =some fn/\fn.body=some c
def EL (E:Env)(call:FuncId->List V->Nat->ah->Option (V×ah)):Prop:=
 ∀f args d Y v Y',call f args d Y=some (v,Y')->Y.next<=Y'.next/\Ck E f/\∀ro B0 K w dO,bH E B0 Y K w->B0<=w.heap.size->(∀s,K.A s->s<Y.next)->RelA K Y.top w args dO->
  CallsIn (oW ro) 0 E.P f dO w (wO E B0 Y K w v Y')
structure Sound (E:Env)(S:iW):Prop where
 code:Hf E S.code
 call:EL E S.call
theorem Step.widen {E:Env}{B0:Nat}{Y aB cO:ah}{K K1 K2:bA}{w w1 w2:World}(h:Step E B0 (newer Y aB) Y K w aB K1 w1)(g:Step E B0 (newer aB cO) aB K1 w1 cO K2 w2)(h1:Y.next<=aB.next)(h2:aB.next<=cO.next):Step E B0 (newer Y cO) Y K w cO K2 w2:=
 (h.mono (fun _ hs=>⟨hs.1,nD hs.2 h2⟩)).trans (g.mono (fun _ hs=>⟨eZ h1 hs.1,hs.2⟩))
end aQ
end
section
open Go
namespace aQ
section
variable {F:Fence}{n:Nat}{P:Program}{Q:Exit->Act->World->Prop}{b:Frame}{k:List Item}{cs:List Frame}{a:Act}{w:World}
theorem Hg {c:Code}:step P (lone (b.atR a (.code (.scope c)::k)) cs w)= .next (lone (b.atR a (.code c:: .inScope c::k)) cs w):=
 step_lone_go (by simp[stepG,stepG.exec,Frame.atR])
theorem aql {c:Code}:step P (lone (b.atR a (.inScope c::k)) cs w)= .next (lone (b.atR a k) cs w):=
 step_lone_go (by simp[stepG,stepG.exec,Frame.atR])
theorem aqm {c:Code}(h:c.wpIn F n P (Exit.noGoto Q) a w):(Code.scope c).wpIn F n P Q a w:=by
 intro b k cs hro hb hr;have h0:(lone (b.atR a (.code (.scope c)::k)) cs w).fenced P F:=fenced_calm hb hr rfl;obtain⟨e,a₁,w₁,hq,harr⟩:=h b (.inScope c::k) cs hro hb hr;cases e with
 |normal=>exact⟨.normal,a₁,w₁,hq,.head h0 Hg (StepsIn.trans harr (.one (fenced_calm hb hr rfl) aql))⟩|exit id'=>
  have hx:exitTo id' (.inScope c::k)=exitTo id' k:=by simp[exitTo]
  exact⟨.exit id',a₁,w₁,hq,fun k' hk=>.head h0 Hg (harr.1 k' (by rw[hx];exact hk)),
   fun hr' hk=>let ⟨k₁,h1,h2⟩:=harr.2 hr' (by rw[hx];exact hk);⟨k₁,h1,.head h0 Hg h2⟩⟩
 |goto l=>exact hq.elim|ret=>exact⟨_,a₁,w₁,hq,.of_steps (.one h0 Hg) harr⟩|panic ch=>exact⟨_,a₁,w₁,hq,.of_steps (.one h0 Hg) harr⟩|outgrown=>exact⟨_,a₁,w₁,hq,.of_steps (.one h0 Hg) harr⟩
end
end aQ
end
section
namespace aQ
open Go Go.RowKit
section
variable {E:Env}{B0:Nat}{Y:ah}{K:bA}{w:World}{fr:Fr}{a:Act}{n:Nat}{ds:He}
def qy (E:Env)(c:Code)(fr:Fr)(Y:ah)(e:Ex)(fr':Fr)(Y':ah):Prop:=
 Y.next<=Y'.next/\∀ro B0 K w a n ds,St E B0 Y K w fr a n ds->iI n c=true->(ro=none/\ds.nm=false\/kr c=true)->c.wpIn (oW ro) 0 E.P (EK E B0 n ds Y K w e fr' Y') a w
theorem aqn:qy E .skip fr Y .normal fr Y:=
 ⟨iR _,fun _ _ K _ _ _ _ h _ _=>wpIn_skip ⟨trivial,K,h,.refl h.ok⟩⟩
theorem aqo (id:Nat):qy E (.exit id) fr Y (.exit id) fr Y:=
 ⟨iR _,fun _ _ K _ _ _ _ h _ _=>wpIn_exit ⟨rfl,K,h,.refl h.ok⟩⟩
theorem aqp:qy E .ret fr Y .ret fr Y:=
 ⟨iR _,fun _ _ K _ _ _ _ h _ _=>wpIn_ret ⟨trivial,K,h,.refl h.ok⟩⟩
theorem aqr (l:Nat):qy E (.label l) fr Y .normal fr Y:=
 ⟨iR _,fun _ _ K _ _ _ _ h _ _=>wpIn_label ⟨trivial,K,h,.refl h.ok⟩⟩
theorem aqs {c:Code}{e:Ex}{bJ:Fr}{aB:ah}(h:qy E c fr Y e bJ aB):qy E (.scope c) fr Y e bJ aB:=by
 refine⟨h.1,fun ro B0 K w a n ds hs hok hnr=>aqm (wpIn_mono (h.2 ro B0 K w a n ds hs hok hnr) ?_)⟩;rintro x a1 w1 ⟨hx,hr⟩;cases x with
 |goto l=>cases e<;>simp only[nT] at hx|_=>exact⟨hx,hr⟩
theorem EK.widen {aB cO:ah}{K1:bA}{w1:World}{e:Ex}{fr':Fr}(h:Step E B0 (newer Y aB) Y K w aB K1 w1)(h1:Y.next<=aB.next)(h2:aB.next<=cO.next):
 ∀x a' w',EK E B0 n ds aB K1 w1 e fr' cO x a' w'->EK E B0 n ds Y K w e fr' cO x a' w':=by
 rintro x a' w' ⟨g1,K2,g2,g3⟩;exact⟨g1,K2,g2,h.widen g3 h1 h2⟩
theorem aqt {c d:Code}{e:Ex}{bJ jd:Fr}{aB cO:ah}(h:qy E c fr Y .normal bJ aB)(g:qy E d bJ aB e jd cO):qy E (.seq c d) fr Y e jd cO:=by refine⟨eZ h.1 g.1,fun ro B0 K w a n ds hs hok hnr=>?_⟩;simp only[iI,aZ] at hok;simp only[kr,aZ] at hnr;refine wpIn_seq (wpIn_mono (h.2 ro B0 K w a n ds hs hok.1 (hnr.imp id And.left)) ?_);rintro x a1 w1 ⟨hx,K1,s1,st1⟩;cases x<;>simp only[nT] at hx;exact wpIn_mono (g.2 ro B0 K1 w1 a1 n ds s1 hok.2 (hnr.imp id And.right)) (EK.widen st1 h.1 g.1)
theorem agT {c d:Code}{e:Ex}{bJ:Fr}{aB:ah}(he:e≠ .normal)(h:qy E c fr Y e bJ aB):qy E (.seq c d) fr Y e bJ aB:=by
 refine⟨h.1,fun ro B0 K w a n ds hs hok hnr=>?_⟩;simp only[iI,aZ] at hok;simp only[kr,aZ] at hnr;refine wpIn_seq (wpIn_mono (h.2 ro B0 K w a n ds hs hok.1 (hnr.imp id And.left)) ?_);rintro x a1 w1 ⟨hx,K1,s1,st1⟩;cases e<;>cases x<;>simp only[nT] at hx
 .exact absurd rfl he
 .exact⟨hx,K1,s1,st1⟩
 .exact⟨hx,K1,s1,st1⟩
theorem aqu {c:Operand}{x y:Code}{t:Bool}{e:Ex}{bJ:Fr}{aB:ah}(hc:yg (fr.ev E c)=some t)(h:qy E (if t then x else y) fr Y e bJ aB):qy E (.cond c x y) fr Y e bJ aB:=by
 refine⟨h.1,fun ro B0 K w a n ds hs hok hnr=>?_⟩;simp only[iI,aZ] at hok;simp only[kr,aZ] at hnr;refine wpIn_cond (agN (Ay hs.ok hs.fr c) hc) (h.2 ro B0 K w a n ds hs ?_ ?_)
 .cases t
  .exact hok.2
  .exact hok.1
 .cases t
  .exact hnr.imp id And.right
  .exact hnr.imp id And.left
def Ww (id:Nat):Ex->Ex
 |.exit i=>if i=id then .normal else .exit i|e=>e
theorem aqv {id:Nat}{c:Code}{e:Ex}{bJ:Fr}{aB:ah}(h:qy E c fr Y e bJ aB):qy E (.block id c) fr Y (Ww id e) bJ aB:=by
 refine⟨h.1,fun ro B0 K w a n ds hs hok hnr=>wpIn_block (wpIn_mono (h.2 ro B0 K w a n ds hs hok hnr) ?_)⟩;rintro x a1 w1 ⟨hx,K1,s1,st1⟩;cases e with
 |normal=>cases x<;>simp only[nT] at hx;exact⟨trivial,K1,s1,st1⟩|ret=>cases x<;>simp only[nT] at hx;exact⟨trivial,K1,s1,st1⟩|exit i=>
  cases x<;>simp only[nT] at hx;subst hx;simp only[Exit.inBlock,Ww];split
  .exact⟨trivial,K1,s1,st1⟩
  .exact⟨rfl,K1,s1,st1⟩
end
section
variable {E:Env}{B0:Nat}{Y Y':ah}{K K':bA}{w w':World}{fr:Fr}{a:Act}{n:Nat}{ds:He}
theorem mU.put {T:Nat->Nat}(h:mU K T w fr a.tmps){d:Option Nat}{v:V}{c:Value}(hr:Rel K T w v c)(hd:∀i,d=some i->i<a.tmps.size):mU K T w (fr.put d v) (a.put d c).tmps:=by
 cases d with
 |none=>exact h|some i=>
  have hi:=hd i rfl;intro t;show Rel K T w (upd fr.tm i v t) ((a.tmps.setIfInBounds i c).getD t undef);by_cases ht:t=i
  .subst ht;rw[upd_same];have:(a.tmps.setIfInBounds t c).getD t undef=c:=by simp[Array.getD,hi]
   rw[this];exact hr
  .rw[upd_ne _ _ ht];have:(a.tmps.setIfInBounds i c).getD t undef=a.tmps.getD t undef:=by
    simp only[Array.getD,Array.size_setIfInBounds];split
    .rename_i hlt;show (a.tmps.setIfInBounds i c)[t]'(by simpa using hlt)=a.tmps[t];rw[Array.getElem_setIfInBounds_ne hlt (Ne.symm ht)]
    .rfl
   rw[this];exact h t
theorem aqw (a:Act)(d:Option Nat)(c:Value):(a.put d c).tmps.size=a.tmps.size:=by cases d<;>simp[Act.put]
theorem put_defers (a:Act)(d:Option Nat)(c:Value):(a.put d c).defers=a.defers:=BQ
theorem St.put (h:St E B0 Y K w fr a n ds){new:Nat->Prop}{d:Option Nat}{v:V}{c:Value}(hs:Step E B0 new Y K w Y' K' w')(hr:Rel K' Y'.top w' v c)(hd:∀i,d=some i->i<n)(hst:∀s,K'.A s->s<Y'.next):
 St E B0 Y' K' w' (fr.put d v) (a.put d c) n ds:=
 ⟨hs.ok,eZ h.hB hs.below.size,mU.put (h.fr.ext hs.ext) hr (fun i hi=>by rw[h.sz];exact hd i hi),by rw[aqw];exact h.sz,by obtain⟨bs,h1,h2,h3,h4⟩:=h.df;exact⟨bs,by rw[put_defers];exact h1,h2,fun b hb=>⟨hs.D b (h3 b hb).1,(h3 b hb).2⟩,h4⟩,hst,eZ h.hD hs.below.size⟩
theorem Q6 {o:Oper}(ro:Option Nat)(Z:Operand->Value)(h:∀c,o.op≠ .defer c):o.semAt ro Z=execOp Z o:=by
 unfold Oper.semAt;split
 .rename_i c hc;exact absurd hc (h c)
 .rfl
theorem aqx {o:Oper}{ro:Option Nat}{new:Nat->Prop}{v:V}{next:Act->World->Prop}{Q:Exit->Act->World->Prop}(ho:∀c,o.op≠ .defer c)(hd:vC E B0 new Y K w (execOp a.eval o) v Y')(hn:∀c w' K',Rel K' Y'.top w' v c->Step E B0 new Y K w Y' K' w'->next (a.put o.dst c) w'):o.wpIn (oW ro) 0 E.P a w next Q:=by
 refine⟨fun f _=>trivial,?_⟩;obtain⟨nx,c,w',K',h1,h2,h3,h4⟩:=hd;rw[Q6 _ _ ho,h1];rcases h2 with rfl| ⟨rfl,rfl⟩
 .exact hn c w' K' h3 h4
 .exact hn undef w' K' h3 h4
end
def uq (Y Y':ah):Prop:=Y'.next=Y.next/\Y'.loops=Y.loops
theorem uq.refl (Y:ah):uq Y Y:=⟨rfl,rfl⟩
section
variable {E:Env}{Y Y':ah}{fr:Fr}
theorem aqy {t:TypeId}{m k v:V}(h:Au E.P Y t m k v=some Y'):uq Y Y':=by unfold Au at h;cases h
theorem aqz {aj:Bool}{st:Nat}{loc:Option Loc}{t:TypeId}{l c v:V}(h:Av E.P aj Y st loc t l c=some (v,Y')):uq Y Y':=by unfold Av at h;cases h
theorem aqA {t:TypeId}{x y v:V}(h:copyV E.P Y t x y=some (v,Y')):uq Y Y':=by
 simp only[copyV,iP] at h;obtain⟨_,_,_,_,_,_,h⟩:=h;split at h
 .simp only[iP] at h;obtain⟨_,_,h⟩:=h;split at h
  .split at h
   .simp only[iP] at h;obtain⟨_,_,h⟩:=h;split at h
    .simp only[iE,mF] at h;obtain⟨_,rfl⟩:=h;exact⟨rfl,rfl⟩
    .simp at h
   .simp only[iE,mF] at h;obtain⟨_,rfl⟩:=h;exact⟨rfl,rfl⟩
   .simp at h
  .simp at h
 .simp at h
theorem Wx {aj zeros:Bool}{st:Nat}{loc:Option Loc}{t:TypeId}{x y v:V}(h:kI E.P aj zeros Y st loc t x y=some (v,Y')):uq Y Y':=by
 simp only[kI,iP] at h;obtain⟨_,_,_,_,_,_,_,_,_,_,h⟩:=h;split at h
 .simp only[iP] at h;obtain⟨_,_,h⟩:=h;split at h
  .split at h
   .split at h
    .split at h;all_goals first
      | (simp only[aY,mF] at h;obtain⟨_,_,_,rfl⟩:=h;exact⟨rfl,rfl⟩)
      | (simp only[iE,mF] at h;obtain⟨_,rfl⟩:=h;exact⟨rfl,rfl⟩)
      | (split at h
         .simp at h
         .simp only[aY,mF] at h;obtain⟨_,_,_,rfl⟩:=h;exact⟨rfl,rfl⟩)
      | (split at h
         .simp only[iE,mF] at h;obtain⟨_,rfl⟩:=h;exact⟨rfl,rfl⟩
         .simp only[aY,mF] at h;obtain⟨_,_,_,rfl⟩:=h;exact⟨rfl,rfl⟩)
      | (split at h
         .simp only[iE,mF] at h;obtain⟨_,rfl⟩:=h;exact⟨rfl,rfl⟩
         .simp at h)
      |simp at h
    .simp at h
   .split at h
    .simp only[iP] at h;obtain⟨_,_,_,_,h⟩:=h;split at h
     .split at h
      .simp only[iE,mF] at h;obtain⟨_,rfl⟩:=h;exact⟨rfl,rfl⟩
      .simp at h
     .split at h
      .simp only[iE,mF] at h;obtain⟨_,rfl⟩:=h;exact⟨rfl,rfl⟩
      .simp at h
    .simp at h
   .simp at h
  .simp at h
 .simp at h
theorem aqB {t:TypeId}{x v:V}(h:GL E.P Y t x=some (v,Y')):uq Y Y':=by unfold GL at h;cases h
theorem agU {aj:Bool}{st:Nat}{loc:Option Loc}{b:Builtin}{tys:Array TypeId}{args:List V}{v:V}(h:qN E aj loc Y st b tys args=some (v,Y')):uq Y Y':=by
 unfold qN at h;split at h
 .simp only[iP,aY,mF] at h;obtain⟨_,_,_,_,_,rfl⟩:=h;exact .refl _
 .simp only[iP] at h;obtain⟨_,_,_,_,h⟩:=h;split at h
  .simp only[iE,mF] at h;obtain⟨_,rfl⟩:=h;exact .refl _
  .simp only[iE,mF] at h;obtain⟨_,rfl⟩:=h;exact .refl _
  .simp at h
 .simp only[iP] at h;obtain⟨_,_,_,_,h⟩:=h;split at h
  .exact Wx h
  .exact Wx h
  .exact Wx h
  .simp at h
 .simp only[iP] at h;obtain⟨_,_,h⟩:=h;exact aqA h
 .simp only[iP] at h;obtain⟨_,_,h⟩:=h;exact aqB h
 .simp only[aY,mF] at h;obtain⟨_,_,_,rfl⟩:=h;exact .refl _
 .simp only[aY,mF] at h;obtain⟨_,_,_,rfl⟩:=h;exact .refl _
 .simp at h
theorem aqC {x v:V}(h:yj Y x=some (v,Y')):uq Y Y':=by
 unfold yj at h;split at h
 .simp only[iP] at h;obtain⟨_,_,h⟩:=h;split at h
  .simp only[iE,mF] at h;obtain⟨_,rfl⟩:=h;exact⟨rfl,rfl⟩
  .simp at h
 .simp only[iE,mF] at h;obtain⟨_,rfl⟩:=h;exact .refl _
 .simp only[iE,mF] at h;obtain⟨_,rfl⟩:=h;exact .refl _
theorem aqD {st:Nat}{loc:Option Loc}{t:TypeId}{len:Nat}{ps:List (Nat×V)}{v:V}(h:Cc E Y st loc t len ps=some (v,Y')):uq Y Y':=by
 simp only[Cc,iP] at h;obtain⟨_,_,_,_,_,_,_,_,h⟩:=h;split at h
 .simp only[iP,aY,mF] at h;obtain⟨_,_,_,_,_,rfl⟩:=h;exact⟨rfl,rfl⟩
 .simp at h
theorem agV {st:Nat}{o:Oper}{v:V}(h:dK E fr Y st o=some (v,Y')):uq Y Y':=by
 unfold dK at h;split at h;all_goals first
  |exact aqz h
  | (split at h<;>first
      |exact aqC h
      |exact aqD h
      | (simp only[aY,mF] at h;obtain⟨_,_,_,rfl⟩:=h;exact⟨rfl,rfl⟩)
      | (simp only[iE,mF] at h;obtain⟨_,rfl⟩:=h;exact .refl _))
  | (simp only[iE,mF] at h;obtain⟨_,rfl⟩:=h;exact .refl _)
  | (simp only[aY,mF] at h;obtain⟨_,_,_,rfl⟩:=h;exact⟨rfl,rfl⟩)
  | (simp only[aY,mF] at h;obtain⟨_,h1,_,rfl⟩:=h;exact aqy h1)
  | (simp only[iP,aY,mF] at h;obtain⟨_,_,_,_,_,_,_,rfl⟩:=h;exact⟨rfl,rfl⟩)
  |simp at h
  | (simp only[iP] at h
     obtain⟨_,_,h⟩:=h;split at h
     .simp only[iE,mF] at h;obtain⟨_,rfl⟩:=h;exact⟨rfl,rfl⟩
     .simp at h)
  |skip
 all_goals
  repeat' first
   |exact⟨rfl,rfl⟩
   | (obtain⟨_,_,h⟩:=h)
   | (simp only[iP] at h)
   |split at h
   | (simp only[iE,mF] at h;obtain⟨_,rfl⟩:=h;exact⟨rfl,rfl⟩)
   | (simp only[aY,mF] at h;obtain⟨_,_,_,rfl⟩:=h;exact⟨rfl,rfl⟩)
   | (simp at h;done)
end
def bA.lend (I:Nat->Nat->Prop)(IM:Nat->Prop):bA:=
 {A:=fun _=>False,blk:=fun _=>0,sz:=fun _=>0,ob:=fun _=>0,lo:=fun _=>0,hi:=fun _=>0,lp:=fun _=>0,I:=I,IM:=IM,D:=fun _=>False,Z:=fun _=>none}
def grow (I:Nat->Nat->Prop)(B:Nat)(w:World)(b o:Nat):Prop:=(I b o\/B<=b)/\∃v,w.cell? (at_ b o)=some v
def yx (IM:Nat->Prop)(B:Nat)(w:World)(b:Nat):Prop:=(IM b\/B<=b)/\∃es fu,w.heap[b]? =some (.map es fu)
theorem vD:∀{l:List V},bY l=true->∀i,i<l.length->aR (l.getD i aP)=true
 |v::l,h,0,_=>by simp only[bY,aZ] at h;exact h.1|v::l,h,i+1,hi=>by simp only[bY,aZ] at h;exact vD h.2 i kg
theorem Wy:∀{l:List V},lS l=true->∀i,i<l.length->flat (l.getD i aP)=true
 |v::l,h,0,_=>by simp only[lS,aZ] at h;exact h.1|v::l,h,i+1,hi=>by simp only[lS,aZ] at h;exact Wy h.2 i kg
theorem Wz {v:V}(h:aR v=true){j:Nat}(hj:j<v.cells.length):aR (v.cells.getD j aP)=true:=by
 cases v with
 |agg cs=>exact vD (l:=cs) (by simpa [aR] using h) j hj|_=>
  have:j=0:=by simpa [V.cells] using hj
  subst this;exact h
section
variable {K K':bA}{T T':Nat->Nat}{w w':World}
theorem Rel.pure {v:V}{c:Value}(h:Rel K T w v c)(hp:aR v=true)(hI:∀b o,K.I b o->K'.I b o/\w'.cell? (at_ b o)=w.cell? (at_ b o))(hM:∀b,K.IM b->K'.IM b/\w'.heap[b]? =w.heap[b]?):Rel K' T' w' v c:=by
 induction h with
 |int k n=>exact .int k n|bool b=>exact .bool b|str s b h=>exact .str s b h|gZ=>exact .gZ|gL=>exact .gL|iq=>exact .iq|iO=>exact .iO|agg cs vs hl _ ih=>exact .agg cs vs hl (fun i hi=>ih i hi (vD BN i hi))
 |bV cs vs hl _ ih=>exact .bV cs vs hl (fun i hi=>ih i hi (vD BN i hi))
 |gq c a ha hc=>
  cases c<;>simp only[aR,dG] at hp;exact .gq .sh a (fun h=>cZ) trivial
 |ak c l b o n cap val hle hn hcell _ hc ih=>
  cases c<;>simp only[aR,dG] at hp;refine .ak .sh l b o n cap val hle hn (fun i j hi hj=>?_) (fun i j hi hj=>ih i j hi hj (Wz (vD hp i hi) (by rw[hn i hi];exact hj))) trivial;obtain⟨h1,h2⟩:=hcell i j hi hj;obtain⟨g1,g2⟩:=hI _ _ h2;exact⟨g2.trans h1,g1⟩
 |aS loc s off len cap bF ag fB hA hc hle hsz=>simp[aR] at hp|oL loc s bF ag hA=>simp[aR] at hp|aW cs off b o val hcell _ ih=>refine .aW cs off b o val (fun j hj=>?_) (fun j hj=>ih j hj (vD BN j hj));obtain⟨h1,h2⟩:=hcell j hj;obtain⟨g1,g2⟩:=hI _ _ h2;exact⟨g2.trans h1,g1⟩
 |ref loc s off hA=>simp[aR] at hp|fn f a b kV bv ha hb _ _ iha ihb=>simp only[aR,aZ] at hp;exact .fn f a b kV bv ha hb (fun i hi=>iha i hi (vD hp.1 i hi)) (fun i hi=>ihb i hi (vD hp.2 i hi))
 |yield l hA=>simp[aR] at hp|fq loc s hA=>simp[aR] at hp|fD ks vs b es fu hM' hb hk hv _ _ ihk LA=>simp only[aR,aZ] at hp;obtain⟨g1,g2⟩:=hM b hM';exact .fD ks vs b es fu g1 (g2.trans hb) hk hv (fun i hi=>ihk i hi (vD hp.1 i RS)) (fun i hi=>LA i hi (vD hp.2 i RS))
 |iface t v c _ ih=>exact .iface t v c (ih BN)|raw v=>simp[aR] at hp
theorem Rel.flat {v:V}{c:Value}(h:Rel K T w v c)(hp:flat v=true):Rel K' T' w' v c:=by
 induction h with
 |int k n=>exact .int k n|bool b=>exact .bool b|str s b h=>exact .str s b h|gZ=>exact .gZ|gL=>exact .gL|iq=>exact .iq|iO=>exact .iO|agg cs vs hl _ ih=>exact .agg cs vs hl (fun i hi=>ih i hi (Wy (by simpa [aQ.flat] using hp) i hi))
 |bV cs vs hl _ ih=>exact .bV cs vs hl (fun i hi=>ih i hi (Wy (by simpa [aQ.flat] using hp) i hi))
 |_=>simp[aQ.flat] at hp
theorem aqE {cs:List V}{vs:Array Value}(h:Rel K T w (.agg cs) (.agg vs)):cs.length=vs.size/\∀i,i<cs.length->Rel K T w (cs.getD i aP) (vs.getD i undef):=by
 cases h with
 |agg _ _ hl h=>exact⟨hl,h⟩
theorem aqF {n:Nat}{Y:ah}{cs:List V}{v:V}(h:bq n Y (.agg cs)=some v):∃cs',v= .agg cs':=by
 cases n with
 |zero=>simp[bq] at h|succ n=>
  unfold bq at h;split at h
  .simp only[iE] at h;exact⟨cs,h.symm⟩
  .simp only[aY] at h;obtain⟨cs',_,rfl⟩:=h;exact⟨cs',rfl⟩
theorem aqG {n:Nat}{Y:ah}{x v:V}(hx:∀cs,x≠ .agg cs)(h:bq n Y x=some v):v.cells=[v]/\x.cells=[x]:=by
 have h2:x.cells=[x]:=by cases x<;>first|rfl|exact absurd rfl (hx _)
 refine⟨?_,h2⟩;cases n with
 |zero=>simp[bq] at h|succ n=>
  unfold bq at h;split at h
  .simp only[iE] at h;subst h;exact h2
  .split at h;all_goals try (simp only[reduceCtorEq] at h;done)
   all_goals try (simp only[aY] at h;obtain⟨_,_,rfl⟩:=h;first|rfl|exact absurd rfl (hx _))
   all_goals try (simp only[iP,aY] at h;obtain⟨_,_,_,_,rfl⟩:=h;rfl)
   .simp only[iP] at h;obtain⟨_,_,h⟩:=h;split at h
    .simp only[iP] at h;obtain⟨_,_,h⟩:=h;split at h
     .simp only[iE] at h;subst h;rfl
     .simp at h
    .simp at h
   .simp only[iP] at h;obtain⟨⟨ks,vs⟩,_,h⟩:=h;simp only[iP,aY] at h;obtain⟨_,_,_,_,rfl⟩:=h;rfl
theorem WA {E:Env}{B0:Nat}{Y:ah}(h:bH E B0 Y K w):∀(n:Nat)(v v':V)(c:Value),Rel K Y.top w v c->bq n Y v=some v'->
 Rel (bA.lend (grow K.I B0 w) (yx K.IM B0 w)) T' w v' c:=by
 have Az:∀b o,K.I b o->grow K.I B0 w b o/\w.cell? (at_ b o)=w.cell? (at_ b o):=fun b o hi=>⟨⟨.inl hi,(h.I b o hi).1⟩,rfl⟩;have Cm:∀b,K.IM b->yx K.IM B0 w b/\w.heap[b]? =w.heap[b]? :=fun b hi=>⟨⟨.inl hi,(h.IM b hi).1⟩,rfl⟩;intro n;induction n with
 |zero=>intro v v' c _ hc;simp[bq] at hc|succ n ih=>
  intro v v' c hr hc;have hlist:∀(l l':List V)(val:Nat->Value),l.mapM (bq n Y)=some l'->(∀i,i<l.length->Rel K Y.top w (l.getD i aP) (val i))->
   l'.length=l.length/\∀i,i<l'.length->Rel (bA.lend (grow K.I B0 w) (yx K.IM B0 w)) T' w (l'.getD i aP) (val i):=by
   intro l l' val hm hv;obtain⟨h1,h2⟩:=mapM_some hm;refine⟨h1.symm,fun i hi=>?_⟩;obtain⟨h3,h4⟩:=h2 i RS;have:=hv i RS;rw[kK (show i<l.length by omega)] at this;rw[kK h3];exact ih _ _ _ this h4
  have hcells:∀(x x':V)(m:Nat)(val:Nat->Value),bq n Y x=some x'->x.cells.length=m->(∀j,j<m->Rel K Y.top w (x.cells.getD j aP) (val j))->
   x'.cells.length=m/\∀j,j<m->Rel (bA.lend (grow K.I B0 w) (yx K.IM B0 w)) T' w (x'.cells.getD j aP) (val j):=by
   intro x x' m val hx hm hv;by_cases hag:∃cs,x= .agg cs
   .obtain⟨cs,rfl⟩:=hag;obtain⟨cs',rfl⟩:=aqF hx;have hm':cs.length=m:=hm;have hcell:∀j,j<m->(Array.ofFn fun i:Fin m=>val i).getD j undef=val j:=fun j hj=>by simp[Array.getD,hj]
    have r:Rel K Y.top w (.agg cs) (.agg (Array.ofFn fun i:Fin m=>val i)):=.agg _ _ (by simpa using hm') (fun i hi=>by rw[hcell i RS];exact hv i RS);obtain⟨g1,g2⟩:=aqE (ih _ _ _ r hx);have g1':cs'.length=m:=(by simpa using g1);exact⟨g1',fun j hj=>by have:=g2 j RS;rw[hcell j hj] at this;exact this⟩
   .obtain⟨h1,h2⟩:=aqG (fun cs e=>hag ⟨cs,e⟩) hx;rw[h2] at hm hv;have hm1:m=1:=(by simpa using hm.symm);subst hm1;rw[h1];refine⟨rfl,fun j hj=>?_⟩;have hj0:j=0:=RS;subst hj0;exact ih _ _ _ (hv 0 RS) hx
  have QN:∀loc s cs,Y.dQ loc s=some cs->cs≠[]->∃vals t,w.heap[K.blk s]? =some (.cells vals t (0,0))/\vals.size=K.sz s/\cs.length<=vals.size/\B0<=K.blk s/\
   (∀i,i<cs.length->Rel K Y.top w (cs.getD i aP) (vals.getD i undef))/\∀i,i<vals.size->w.cell? (at_ (K.blk s) i)=some (vals.getD i undef):=by
   intro loc s cs hcs hne;obtain⟨g1,_,_⟩:=h.wL hcs;obtain⟨a1,a2,a3⟩:=h.obj _ _ _ g1;obtain⟨b1,vals,t,b2,b3,b4,b5⟩:=a2.2 hne;refine⟨vals,t,b2,b3,b4,b1,b5,fun i hi=>?_⟩;simp[World.cell?,b2,Array.getD,hi]
  unfold bq at hc;split at hc
  .rename_i hp;simp only[iE] at hc;subst hc;exact hr.pure hp Az Cm
  .cases hr with
   |gq c a ha hcn=>simp only[List.mapM_nil,Option.pure_def,Option.map_some,iE] at hc;subst hc;exact .gq .sh a (fun h=>cZ) trivial
   |ak c l b o m cap val hle hn hcell hrel hcap=>
    simp only[aY] at hc;obtain⟨l',hm,rfl⟩:=hc;obtain⟨h1,h2⟩:=mapM_some hm;have hel:∀i,i<l'.length->(l'.getD i aP).cells.length=m/\∀j,j<m->Rel (bA.lend (grow K.I B0 w) (yx K.IM B0 w)) T' w ((l'.getD i aP).cells.getD j aP) (val i j):=by
     intro i hi;obtain⟨h3,h4⟩:=h2 i RS;rw[kK h3];refine hcells _ _ m (val i) h4 ?_ (fun j hj=>?_)
     .have:=hn i RS;rwa[kK (show i<l.length by omega)] at this
     .have:=hrel i j RS hj;rwa[kK (show i<l.length by omega)] at this
    rw[h1];refine .ak .sh l' b o m cap val RS (fun i hi=>(hel i hi).1) (fun i j hi hj=>?_) (fun i j hi hj=>(hel i hi).2 j hj) trivial;obtain⟨e1,e2⟩:=hcell i j RS hj;exact⟨e1,(Az _ _ e2).1⟩
   |agg cs vs hl hrel=>simp only[aY] at hc;obtain⟨l',hm,rfl⟩:=hc;obtain⟨h1,h2⟩:=hlist _ _ (fun i=>vs.getD i undef) hm hrel;exact .agg _ _ RS h2
   |bV cs vs hl hrel=>simp only[aY] at hc;obtain⟨l',hm,rfl⟩:=hc;obtain⟨h1,h2⟩:=hlist _ _ (fun i=>vs.getD i undef) hm hrel;exact .bV _ _ RS h2
   |aW cs off b o val hcell hrel=>simp only[aY] at hc;obtain⟨l',hm,rfl⟩:=hc;obtain⟨h1,h2⟩:=hlist _ _ val hm hrel;exact .aW l' off b o val (fun j hj=>⟨(hcell j RS).1,(Az _ _ (hcell j RS).2).1⟩) h2
   |fn f a b kV bv ha hb ra rb=>simp only[iP,aY] at hc;obtain⟨a',hma,b',hmb,rfl⟩:=hc;obtain⟨h1,h2⟩:=hlist _ _ (fun i=>kV.getD i undef) hma ra;obtain⟨h3,h4⟩:=hlist _ _ (fun i=>bv.getD i undef) hmb rb;exact .fn f a' b' kV bv RS RS h2 h4
   |ref loc s off hA=>
    simp only[iP,aY] at hc;obtain⟨cs,hcs,cs',hm,rfl⟩:=hc;have key:Rel (bA.lend (grow K.I B0 w) (yx K.IM B0 w)) T' w (.aW cs' off) (.pointer (some (at_ (K.blk s) (0+off)))):=by
     by_cases hne:cs=[]
     .subst hne;simp only[List.mapM_nil,Option.pure_def,iE] at hm;subst hm;exact .aW [] off _ 0 (fun _=>undef) (fun j hj=>absurd hj (gQ j)) (fun j hj=>absurd hj (gQ j))
     .obtain⟨vals,t,e1,e2,e3,e4,e5,e6⟩:=QN _ _ _ hcs hne;obtain⟨h1,h2⟩:=hlist _ _ (fun i=>vals.getD i undef) hm e5;refine .aW cs' off _ 0 (fun i=>vals.getD i undef) (fun j hj=>?_) h2;rw[o7];exact⟨e6 j RS,.inr e4,_,e6 j RS⟩
    rwa[o7] at key
   |oL loc s bF ag hA=>
    simp only[iP] at hc;obtain⟨cs,hcs,hc⟩:=hc;split at hc
    .simp only[iP] at hc;obtain⟨cs',hm,hc⟩:=hc;split at hc
     .simp only[iE] at hc;subst hc;exact .gq .sh none (fun _=>rfl) trivial
     .simp at hc
    .simp at hc
   |aS loc s off len cap bF ag fB hA hcp hle hsz=>
    simp only[iP] at hc;obtain⟨cs,hcs,hc⟩:=hc;split at hc
    .rename_i hlen;simp only[iP] at hc;obtain⟨cs',hm,hc⟩:=hc;split at hc
     .rename_i hag;simp only[iE] at hc;subst hc;have LW:ag=false->bF=1:=fun e=>by simp[e] at hag;exact hag.1
      have LX:ag=false->dx cs'=true:=fun e=>by simp[e] at hag;exact hag.2
      have hl':((cs.drop off).take (len*bF)).length=len*bF:=dw;by_cases hne:cs=[]
      .subst hne;have h0:len*bF=0:=(by simp at hlen;omega);have hd:(([]:List V).drop off).take (len*bF)=[]:=aD;rw[hd] at hm;simp only[List.mapM_nil,Option.pure_def,iE] at hm;subst hm;exact GZ (w:=w) (val:=fun _=>undef) LW (by rw[h0];exact pR _) LX (fun j hj=>RS) (fun j hj=>RS) RS trivial
      .obtain⟨vals,t,e1,e2,e3,e4,e5,e6⟩:=QN _ _ _ hcs hne;obtain⟨h1,h2⟩:=hlist _ _ (fun i=>vals.getD (off+i) undef) hm (fun i hi=>by rw[hl'] at hi;rw[rR _ hi,uh];exact e5 _ RS);rw[hl'] at h1;refine GZ (w:=w) (val:=fun i=>vals.getD (off+i) undef) LW RS LX (fun j hj=>⟨e6 _ RS,.inr e4,_,e6 _ RS⟩) (fun j hj=>h2 j RS) RS trivial
     .simp at hc
    .simp at hc
   |fq loc s hA=>
    simp only[iP] at hc;obtain⟨⟨ks,vs⟩,hmp,hc⟩:=hc;simp only[iP,aY] at hc;obtain⟨ks',hk,vs',hv,rfl⟩:=hc;have nS:Y.obj loc=some (s,.map ks vs):=by
     unfold ah.lD at hmp;split at hmp
     .rename_i s' aFq vs0 ho;split at hmp
      .rename_i hs;simp only[iE,mF] at hmp;obtain⟨rfl,rfl⟩:=hmp;rw[ho,hs]
      .simp at hmp
     .simp at hmp
    obtain⟨_,⟨a1,es,fu,a2,a3,a4,a5,a6⟩,_⟩:=h.obj _ _ _ nS;obtain⟨h1,h2⟩:=hlist _ _ (fun i=>(es.getD i default).key) hk (fun i hi=>a5 i RS);obtain⟨h3,h4⟩:=hlist _ _ (fun i=>(es.getD i default).val) hv (fun i hi=>a6 i RS);exact .fD ks' vs' _ es fu ⟨.inr a1,es,fu,a2⟩ a2 RS RS (fun i hi=>h2 i RS) (fun i hi=>h4 i RS)
   |fD ks vs b es fu hM hb hk hv rk rv=>simp only[iP,aY] at hc;obtain⟨ks',hk',vs',hv',rfl⟩:=hc;obtain⟨h1,h2⟩:=hlist _ _ (fun i=>(es.getD i default).key) hk' (fun i hi=>rk i RS);obtain⟨h3,h4⟩:=hlist _ _ (fun i=>(es.getD i default).val) hv' (fun i hi=>rv i RS);exact .fD ks' vs' b es fu (Cm b hM).1 hb RS RS (fun i hi=>h2 i RS) (fun i hi=>h4 i RS)
   |iface t x c hx=>simp only[aY] at hc;obtain⟨x',hx',rfl⟩:=hc;exact .iface t x' c (ih _ _ _ hx hx')
   |_=>simp at hc
end
def Q7 (E:Env)(I:Nat->Nat->Prop)(IM:Nat->Prop)(w:World):Prop:=
 (∀b o,I b o->∃v,w.cell? (at_ b o)=some v)/\(∀b,IM b->∃es fu,w.heap[b]? =some (.map es fu))/\
 ∀g cs,E.glob g=some cs->Rel (bA.lend I IM) (fun _=>0) w (.aW cs 0) (.pointer (some (at_ g 0)))
def agW (I:Nat->Nat->Prop)(IM:Nat->Prop)(w:World)(v:V):Ending->World->Prop
 |.returned c,w'=>Below w.heap.size w w'/\Rel (bA.lend (grow I w.heap.size w') (yx IM w.heap.size w')) (fun _=>0) w' v c
 |_,_=>False
def rT (E:Env)(f:FuncId)(args:List V)(v:V):Prop:=
 Ck E f/\∀I IM w dO,Q7 E I IM w->RelA (bA.lend I IM) (fun _=>0) w args dO->CallsIn Fence.wide 0 E.P f dO w (agW I IM w v)
structure o8 (E:Env):Prop where
 name:∀(f:FuncId)(fn:Func),E.P.funcs[f]? =some fn->fn.name≠ "runtime.NumGoroutine"
 mP:∀f g,E.mP f=some g->∀args v,g args=some v->rT E f args v
 mixed:E.P.follows .mixedOrders=true
 flat:∀g cs,E.glob g=some cs->bY cs=true
section
variable {E:Env}{S:iW}{K K':bA}{T T':Nat->Nat}{w w':World}{Y Y':ah}{B0:Nat}
theorem Rel.LY {I:Nat->Nat->Prop}{IM:Nat->Prop}{v:V}{c:Value}(h:Rel (bA.lend I IM) T w v c)(hI:∀b o,I b o->K'.I b o/\w'.cell? (at_ b o)=w.cell? (at_ b o))(hM:∀b,IM b->K'.IM b/\w'.heap[b]? =w.heap[b]?):Rel K' T' w' v c:=by
 generalize hK:bA.lend I IM=K at h;induction h with
 |int k n=>exact .int k n|bool b=>exact .bool b|str s b h=>exact .str s b h|gZ=>exact .gZ|gL=>exact .gL|iq=>exact .iq|iO=>exact .iO|agg cs vs hl _ ih=>exact .agg cs vs hl (fun i hi=>ih i hi)
 |bV cs vs hl _ ih=>exact .bV cs vs hl (fun i hi=>ih i hi)
 |gq c a ha hc=>
  cases c with
  |own n s=>subst hK;exact hc.1.elim|_=>exact .gq _ a ha trivial
 |ak c l b o n cap val hle hn hcell _ hc ih=>
  refine .ak c l b o n cap val hle hn (fun i j hi hj=>?_) ih ?_
  .obtain⟨h1,h2⟩:=hcell i j hi hj;subst hK;obtain⟨g1,g2⟩:=hI _ _ h2;exact⟨g2.trans h1,g1⟩
  .cases c with
   |own n s=>subst hK;exact hc.2.1.elim|sh=>trivial|full=>exact hc|nil=>exact hc
 |aS loc s off len cap bF ag fB hA hc hle hsz=>subst hK;exact hA.elim|oL loc s bF ag hA=>subst hK;exact hA.elim|aW cs off b o val hcell _ ih=>refine .aW cs off b o val (fun j hj=>?_) ih;obtain⟨h1,h2⟩:=hcell j hj;subst hK;obtain⟨g1,g2⟩:=hI _ _ h2;exact⟨g2.trans h1,g1⟩
 |ref loc s off hA=>subst hK;exact hA.elim|fn f a b kV bv ha hb _ _ iha ihb=>exact .fn f a b kV bv ha hb iha ihb|yield l hA=>subst hK;exact hA.elim|fq loc s hA=>subst hK;exact hA.elim|fD ks vs b es fu hM' hb hk hv _ _ ihk LA=>subst hK;obtain⟨g1,g2⟩:=hM b hM';exact .fD ks vs b es fu g1 (g2.trans hb) hk hv ihk LA
 |iface t v c _ ih=>exact .iface t v c ih|raw v=>exact .raw v
theorem Q8 {B b o:Nat}(h:Below B w w')(hb:b<B):w'.cell? (at_ b o)=w.cell? (at_ b o):=cell_of_heap (h.block b hb)
theorem WB {I:Nat->Nat->Prop}{IM:Nat->Prop}(h:Q7 E I IM w):bH E w.heap.size ah.init (bA.lend I IM) w where
 obj loc s ob hs:=by simp[ah.init] at hs
 own s hs:=hs.elim
 I b o hi:=⟨h.1 b o hi,fun loc e=>by simp[bA.lend] at e⟩
 IM b hi:=⟨h.2.1 b hi,fun loc e=>by simp[bA.lend] at e⟩
 loop l r hl:=by simp[ah.init] at hl
 glob g cs hg:=by have:=h.2.2 g cs hg;exact this.LY (fun _ _ h=>⟨h,rfl⟩) (fun _ h=>⟨h,rfl⟩)
 rb b r hr:=by simp[bA.lend] at hr
 D b hd:=hd.elim
theorem agX (hE:o8 E)(hS:EL E S.call){f:FuncId}{args:List V}{v:V}(h:mQ E S f args=some v):rT E f args v:=by
 unfold mQ at h;split at h
 .rename_i g hg;exact hE.mP f g hg args v h
 .simp only[iP] at h;obtain⟨⟨v0,aB⟩,hc,h⟩:=h;obtain⟨_,hb,hs⟩:=hS _ _ _ _ _ _ hc;refine⟨hb,fun I IM w dO hl hr=>?_⟩;have hr':RelA (bA.lend I IM) ah.init.top w args dO:=hr;refine(hs none w.heap.size (bA.lend I IM) w dO (WB hl) (iR _) (fun s hs=>hs.elim) hr').mono ?_;intro e w' hp;cases e with
  |returned c=>
   obtain⟨K1,r1,s1,_,st⟩:=hp;refine⟨st.below,?_⟩;have:=WA (T':=fun _=>0) s1 20 v0 v c r1 h;refine this.LY (fun b o hi=>⟨⟨?_,hi.2⟩,rfl⟩) (fun b hi=>⟨⟨?_,hi.2⟩,rfl⟩)
   .rcases hi.1 with h1|h1
    .exact st.zn b o h1
    .exact .inr h1
   .rcases hi.1 with h1|h1
    .exact st.zo b h1
    .exact .inr h1
  |panicked ch=>exact hp.elim|outgrown=>exact hp.elim
theorem Step.grow (h:bH E B0 Y K w)(hB:B0<=w.heap.size){new:Nat->Prop}(hb:Below w.heap.size w w'):
 Step E B0 new Y K w Y {K with I:=aQ.grow K.I w.heap.size w',IM:=yx K.IM w.heap.size w'} w':=by
 have Az:∀b o,K.I b o->w'.cell? (at_ b o)=w.cell? (at_ b o):=fun b o hi=>Q8 hb (lt_of_cell (h.I b o hi).1.choose_spec);have Cm:∀b,K.IM b->w'.heap[b]? =w.heap[b]? :=fun b hi=>by obtain⟨⟨es,fu,h1⟩,_⟩:=h.IM b hi;exact hb.block b (lt_of_heap h1)
 have e:Ext K Y.top w {K with I:=aQ.grow K.I w.heap.size w',IM:=yx K.IM w.heap.size w'} Y.top w':=
  ⟨fun _ h=>⟨h,rfl,rfl,rfl⟩,fun _ _=>.inl ⟨rfl,rfl,rfl,rfl⟩,fun b o hi=>⟨⟨.inl hi,by rw[Az b o hi];exact(h.I b o hi).1⟩,Az b o hi⟩,
    fun b hi=>⟨⟨.inl hi,by rw[Cm b hi];exact(h.IM b hi).1⟩,Cm b hi⟩⟩
 refine⟨⟨fun loc s ob hs=>?_,fun s hs hl=>?_,fun b o hi=>⟨hi.2,?_⟩,fun b hi=>⟨hi.2,?_⟩,fun l r hl=>?_,fun g cs hg=>(h.glob g cs hg).ext e,fun b r hr=>?_,fun b hd=>?_⟩,e,
  ⟨hb.os,hb.tape,hb.output,hb.size,fun k hk=>hb.block k RS⟩,fun _ h=>h,fun _ h=>.inl h,fun b o hi=>hi.1.imp id RS,fun b hi=>hi.1.imp id RS⟩
 .obtain⟨a1,a2,a3⟩:=h.obj loc s ob hs;exact⟨a1,a2.ext e a1 (fun hr=>hb.block _ (h.rb _ _ (a3 hr)).1),a3⟩
 .obtain⟨a1,a2,a3⟩:=h.own s hs hl;have hlt:=(h.rb _ _ a2).1;refine⟨a1,a2,fun o h1 h2=>?_⟩;obtain⟨c1,⟨v,c2⟩,c3⟩:=a3 o h1 h2;refine⟨fun hi=>?_,⟨v,(Q8 hb hlt).trans c2⟩,?_⟩
  .rcases hi.1 with h1|h1
   .exact c1 h1
   .have:w.heap.size<=K.ob s:=h1;omega
  .rw[frozen_of_heap (hb.block _ hlt)];exact c3
 .intro loc hZ;rcases hi.1 with h1|h1
  .exact(h.I b o h1).2 loc hZ
  .have:=(h.rb _ _ hZ).1;omega
 .intro loc hZ;rcases hi.1 with h1|h1
  .exact(h.IM b h1).2 loc hZ
  .have:=(h.rb _ _ hZ).1;omega
 .obtain⟨a1,a2⟩:=h.loop l r hl;exact⟨a1,a2.ext e a1 (hb.block _ (h.rb _ _ a2.2.1).1) rfl⟩
 .have:=h.rb b r hr;exact⟨nD this.1 hb.size,this.2⟩
 .have:=h.D b hd;rw[hb.block b (lt_of_heap this)];exact this
def bA.pV (K:bA)(B:Nat)(w':World)(st ob lo hi:Nat):bA:=
 {K with A:=fun x=>K.A x\/x=st,ob:=upd K.ob st ob,lo:=upd K.lo st lo,hi:=upd K.hi st hi,I:=fun b o=>aQ.grow K.I B w' b o/\¬(b=ob/\lo<=o/\o<hi),IM:=yx K.IM B w',Z:=fun b=>if b=ob/\lo<hi then some (.own st) else K.Z b}
theorem Step.pV (h:bH E B0 Y K w)(hB:B0<=w.heap.size){st T1:Nat}(hst:¬K.A st)(hb:Below w.heap.size w w'){ob lo hi:Nat}(ho:lo<hi->w.heap.size<=ob/\∀o,lo<=o->o<hi->(∃v,w'.cell? (at_ ob o)=some v)/\w'.frozen? (at_ ob o)=false):
 Step E B0 (· =st) Y K w (Y.eB st T1) (K.pV w.heap.size w' st ob lo hi) w':=by
 have Az:∀b o,K.I b o->w'.cell? (at_ b o)=w.cell? (at_ b o):=fun b o hi=>Q8 hb (lt_of_cell (h.I b o hi).1.choose_spec);have Cm:∀b,K.IM b->w'.heap[b]? =w.heap[b]? :=fun b hi=>by obtain⟨⟨es,fu,h1⟩,_⟩:=h.IM b hi;exact hb.block b (lt_of_heap h1)
 have hne:∀x,K.A x->x≠st:=fun x hx e=>hst (e▸hx);have WC:∀b,b<w.heap.size->(K.pV w.heap.size w' st ob lo hi).Z b=K.Z b:=fun b hbl=>by show (if b=ob/\lo<hi then some (GR.own st) else K.Z b)=K.Z b;rw[if_neg];rintro⟨rfl,h2⟩;have:=(ho h2).1;omega
 have hold:∀b o,b<w.heap.size->¬(b=ob/\lo<=o/\o<hi):=by rintro b o hbl ⟨rfl,h2,h3⟩;have:=(ho RS).1;omega
 have e:Ext K Y.top w (K.pV w.heap.size w' st ob lo hi) (Y.eB st T1).top w':=
  ⟨fun _ h=>⟨.inl h,rfl,rfl,rfl⟩,fun x hx=>.inl ⟨upd_ne _ _ (hne x hx),upd_ne _ _ (hne x hx),upd_ne _ _ (hne x hx),upd_ne _ _ (hne x hx)⟩,
    fun b o hi=>⟨⟨⟨.inl hi,by rw[Az b o hi];exact(h.I b o hi).1⟩,hold b o (lt_of_cell (h.I b o hi).1.choose_spec)⟩,Az b o hi⟩,
    fun b hi=>⟨⟨.inl hi,by rw[Cm b hi];exact(h.IM b hi).1⟩,Cm b hi⟩⟩
 refine⟨⟨fun loc s x hs=>?_,fun s hs hl=>?_,fun b o hq=>⟨hq.1.2,?_⟩,fun b hq=>⟨hq.2,?_⟩,fun l r hl=>?_,fun g cs hg=>(h.glob g cs hg).ext e,fun b r hr=>?_,fun b hd=>?_⟩,e,
  ⟨hb.os,hb.tape,hb.output,hb.size,fun k hk=>hb.block k RS⟩,fun _ h=>h,fun _ h=>h,fun b o hi=>hi.1.1.imp id RS,fun b hi=>hi.1.imp id RS⟩
 .obtain⟨a1,a2,a3⟩:=h.obj loc s x hs;refine⟨.inl a1,a2.ext e a1 (fun hr=>hb.block _ (h.rb _ _ (a3 hr)).1),fun hr=>?_⟩;show (K.pV w.heap.size w' st ob lo hi).Z (K.blk s)=_;rw[WC _ (h.rb _ _ (a3 hr)).1];exact a3 hr
 .by_cases hxs:s=st
  .subst hxs;have q1:(K.pV w.heap.size w' s ob lo hi).ob s=ob:=upd_same _ _ _;have q2:(K.pV w.heap.size w' s ob lo hi).lo s=lo:=upd_same _ _ _;have q3:(K.pV w.heap.size w' s ob lo hi).hi s=hi:=upd_same _ _ _;rw[q2,q3] at hl;obtain⟨o1,o2⟩:=ho hl;refine⟨by rw[q1];omega,?_,fun o h1 h2=>?_⟩
   .rw[q1];show (if ob=ob/\lo<hi then some (GR.own s) else K.Z ob)=_;rw[if_pos ⟨rfl,hl⟩]
   .rw[q2] at h1;rw[q3] at h2;rw[q1];exact⟨fun hI=>hI.2 ⟨rfl,h1,h2⟩,(o2 o h1 h2).1,(o2 o h1 h2).2⟩
  .have hA:K.A s:=hs.resolve_right hxs;have q1:(K.pV w.heap.size w' st ob lo hi).ob s=K.ob s:=upd_ne _ _ hxs;have q2:(K.pV w.heap.size w' st ob lo hi).lo s=K.lo s:=upd_ne _ _ hxs;have q3:(K.pV w.heap.size w' st ob lo hi).hi s=K.hi s:=upd_ne _ _ hxs;rw[q2,q3] at hl;obtain⟨a1,a2,a3⟩:=h.own s hA hl;have hlt:=(h.rb _ _ a2).1;refine⟨by rw[q1];exact a1,by rw[q1,WC _ hlt];exact a2,fun o h1 h2=>?_⟩;rw[q2] at h1;rw[q3] at h2;rw[q1];obtain⟨c1,⟨v,c2⟩,c3⟩:=a3 o h1 h2;refine⟨fun hi=>?_,⟨v,(Q8 hb hlt).trans c2⟩,?_⟩
   .rcases hi.1.1 with h1|h1
    .exact c1 h1
    .omega
   .rw[frozen_of_heap (hb.block _ hlt)];exact c3
 .intro loc hZ;have AA:(if b=ob/\lo<hi then some (GR.own st) else K.Z b)=some (.obj loc):=hZ;split at AA
  .cases AA
  .rcases hq.1.1 with h1|h1
   .exact(h.I b o h1).2 loc AA
   .have:=(h.rb _ _ AA).1;omega
 .intro loc hZ;have AA:(if b=ob/\lo<hi then some (GR.own st) else K.Z b)=some (.obj loc):=hZ;split at AA
  .cases AA
  .rcases hq.1 with h1|h1
   .exact(h.IM b h1).2 loc AA
   .have:=(h.rb _ _ AA).1;omega
 .obtain⟨a1,a2⟩:=h.loop l r hl;exact⟨.inl a1,a2.ext e a1 (hb.block _ (h.rb _ _ a2.2.1).1) (WC _ (h.rb _ _ a2.2.1).1)⟩
 .have hr':(if b=ob/\lo<hi then some (GR.own st) else K.Z b)=some r:=hr;split at hr'
  .rename_i hc;obtain⟨o1,o2⟩:=ho hc.2;obtain⟨⟨v,hv⟩,_⟩:=o2 lo (iR _) hc.2;rw[hc.1];exact⟨lt_of_cell hv,RS⟩
  .have:=h.rb b r hr';exact⟨nD this.1 hb.size,this.2⟩
 .have:=h.D b hd;rw[hb.block b (lt_of_heap this)];exact this
end
section
variable {E:Env}{S:iW}{K K':bA}{w w':World}{Y Y':ah}{B0:Nat}
theorem WE (w:World)(b:Nat)(o:Obj):Only b w (w.putObj b o):=⟨rfl,rfl,rfl,aD,fun _ hk _=>World.putObj_heap_other hk⟩
theorem Step.nP (h:bH E B0 Y K w)(hB:B0<=w.heap.size){new:Nat->Prop}{l:Nat}{r r':Ey}(hl:Y.loops l=some r)(h1:r'.fr=r.fr)(h2:r'.ps=r.ps)(h3:r'.gF=r.gF)(h4:r'.body=r.body){rec:Go.Loop}(hr:w.heap[K.lp l]? =some (.loop rec)):
 Step E B0 new Y K w (Y.nP l r') K (w.putObj (K.lp l) (.loop {rec with state:=ug r'.st,pending:=r'.pend.bind vw})):=by
 obtain⟨hA,hb0,hZ,fn,tmps,D,hh,hf,hok⟩:=h.loop l r hl;have hrec:rec={state:=ug r.st,pending:=r.pend.bind vw,fn:=fn,tmps:=tmps,params:=r.ps.toArray,assign:=r.gF,body:=r.body,defers:=D}:=by rw[hh] at hr;simpa using hr.symm
 have hlt:=lt_of_heap hr;have ho:=WE w (K.lp l) (.loop {rec with state:=ug r'.st,pending:=r'.pend.bind vw});have hnew:(w.putObj (K.lp l) (.loop {rec with state:=ug r'.st,pending:=r'.pend.bind vw})).heap[K.lp l]? =some (.loop {rec with state:=ug r'.st,pending:=r'.pend.bind vw}):=World.putObj_heap_same hlt;have hcell:∀b o v,w.cell? (at_ b o)=some v->b≠K.lp l:=fun b o v hv e=>by subst e;simp[World.cell?,hr] at hv
 have e:Ext K Y.top w K Y.top (w.putObj (K.lp l) (.loop {rec with state:=ug r'.st,pending:=r'.pend.bind vw})):=by
  refine⟨fun _ h=>⟨h,rfl,rfl,rfl⟩,fun _ _=>.inl ⟨rfl,rfl,rfl,rfl⟩,fun b o hi=>⟨hi,?_⟩,fun b hi=>⟨hi,?_⟩⟩
  .obtain⟨⟨v,hv⟩,_⟩:=h.I b o hi;exact cell_of_heap (ho.block b (hcell b o v hv) (lt_of_cell hv))
  .obtain⟨⟨es,fu,hv⟩,_⟩:=h.IM b hi;exact ho.block b (wK hv hr aD) (lt_of_heap hv)
 refine⟨?_,e,ho.below hb0 hB,fun _ h=>h,fun _ h=>.inl h,fun _ _ h=>.inl h,fun _ h=>.inl h⟩;refine h.upd (Y':=Y.nP l r') ho e (fun _ _=>rfl) (fun r hr'=>⟨by simpa using hlt,hb0⟩) ?_ ?_ ?_ ?_ ?_ ?_
 .intro loc s ob hs;refine .inl ⟨hs,fun rQ=>?_⟩;intro e';have:=(h.obj loc s ob hs).2.2 rQ;rw[e',hZ] at this;cases this
 .intro s hs hlt';refine .inl ⟨hs,rfl,rfl,rfl,fun e'=>?_⟩;have:=(h.own s hs hlt').2.1;rw[e',hZ] at this;cases this
 .intro b' o hi;obtain⟨⟨v,hv⟩,_⟩:=h.I b' o hi;exact .inl ⟨hi,hcell b' o v hv⟩
 .intro b' hi;obtain⟨⟨es,fu,hv⟩,_⟩:=h.IM b' hi;exact .inl ⟨hi,wK hv hr aD⟩
 .intro l' r1 hl';by_cases hll:l'=l
  .subst hll;right;have hr1:r'=r1:=by simpa [ah.nP,upd] using hl'
   subst hr1;refine⟨hA,hb0,hZ,fn,tmps,D,?_,?_,?_⟩
   .rw[hnew,hrec,h2,h3,h4]
   .rw[h1];exact hf.ext e
   .rw[h2,h3,h4];exact hok
  .left;have hl1:Y.loops l'=some r1:=by simpa [ah.nP,upd,hll] using hl'
   refine⟨hl1,fun e'=>?_⟩;have:=(h.loop l' r1 hl1).2.2.1;rw[e',hZ] at this;cases this;exact hll rfl
 .intro b' hd;exact .inl ⟨hd,wK (h.D b' hd) hr aD⟩
theorem aqH {T:Nat->Nat}:∀(ps:List Nat)(args:List V)(cs:List Value)(fr:Fr)(tmps:Array Value),ps.length=args.length->args.length=cs.length->mU K T w fr tmps->(∀i,i<args.length->Rel K T w (args.getD i aP) (cs.getD i undef))->(∀p∈ps,p<tmps.size)->mU K T w {fr with tm:=(ps.zip args).foldl (fun tm (p,a)=>upd tm p a) fr.tm} ((ps.zip cs).foldl (fun tmps (t,a)=>tmps.setIfInBounds t a) tmps)/\
   ((ps.zip cs).foldl (fun tmps (t,a)=>tmps.setIfInBounds t a) tmps).size=tmps.size:=by
 intro ps;induction ps with
 |nil=>intro args cs fr tmps _ _ hf _ _;exact⟨hf,rfl⟩|cons p ps ih=>
  intro args cs fr tmps hl hl2 hf hr hp;cases args with
  |nil=>simp at hl|cons a args=>
   cases cs with
   |nil=>simp at hl2|cons c cs=>have hput:=mU.put (K:=K) (w:=w) (T:=T) (a:={tmps:=tmps,defers:=[]}) hf (d:=some p) (v:=a) (c:=c) (hr 0 aD) (fun i hi=>by cases hi;exact hp p aD);have:=ih args cs (fr.set p a) (tmps.setIfInBounds p c) BO (by simpa using hl2) hput (fun i hi=>hr (i+1) kg) (fun q hq=>by simpa using hp q (by simp[hq]));refine⟨this.1,this.2.trans aD⟩
theorem zip_toArray (ps:List Nat)(cs tmps:Array Value):(ps.toArray.zip cs).foldl (fun tmps (t,a)=>tmps.setIfInBounds t a) tmps=(ps.zip cs.toList).foldl (fun tmps (t,a)=>tmps.setIfInBounds t a) tmps:=by
 rw[<-Array.foldl_toList];congr 1;simp
theorem aqI (hS:Hf E S.code)(h:bH E B0 Y K w)(hB:B0<=w.heap.size)(hA:∀s,K.A s->s<Y.next){l:Nat}{args:List V}{dO:Array Value}{v:V}(hv:yt S l args Y=some (v,Y'))(ra:RelA K Y.top w args dO):
 Y.next<=Y'.next/\∃fn tmps gF body,(Instr.yield (K.lp l) dO).run E.P w= .ok (.round (K.lp l) fn tmps gF body) w/\RoundIn Fence.wide 0 E.P (K.lp l) fn tmps gF body w (wO E B0 Y K w v Y'):=by
 unfold yt at hv;simp only[iP] at hv;obtain⟨r,hl,hv⟩:=hv;split at hv
 .rename_i hst;simp only[iP] at hv;obtain⟨⟨e1,bJ,aB⟩,LZ,hv⟩:=hv;cases e1 with
  |normal=>
   simp only[iP] at hv;obtain⟨r1,hl1,hv⟩:=hv;split at hv
   .rename_i Hl;simp only[iP] at hv;obtain⟨⟨e2,jd,cO⟩,hbody,r2,hl2,hv⟩:=hv;split at hv
    .rename_i aFr;obtain⟨aqJ,hb0,hZ,fn,tmps,D,hh,hf,hok1,hok2,hps,hn1,hn2⟩:=h.loop l r hl;obtain⟨hle1,hw1⟩:=hS _ _ _ _ _ _ LZ;obtain⟨hle2,hw2⟩:=hS _ _ _ _ _ _ hbody;have aqK:aB.next<=cO.next:=hle2;have hnext:Y'.next=cO.next:=by
      cases e2<;>simp only[iE,mF] at hv<;>obtain⟨_,rfl⟩:=hv<;>rfl
     refine⟨RS,?_⟩;have hsz:dO.size=r.ps.length:=(by have:=ra.1;omega);have WG:=run_yield (P:=E.P) (args:=dO) hh (by simpa using hsz);refine⟨_,_,_,_,WG,?_⟩;dsimp only;rw[zip_toArray];have WH:=aqH (K:=K) (w:=w) (T:=Y.top) r.ps args dO.toList r.fr tmps hst.2 (by have:=ra.1;simpa using this) hf (fun i hi=>by rw[QV];exact ra.2 i hi) hps;generalize aFs:(r.ps.zip dO.toList).foldl (fun tmps (t,a)=>tmps.setIfInBounds t a) tmps=aqL at WH;refine roundIn_of_wpIn trivial ?_;have hs0:St E B0 Y K w {r.fr with tm:=(r.ps.zip args).foldl (fun tm (p,a)=>upd tm p a) r.fr.tm} {tmps:=aqL,defers:=[]} tmps.size ⟨[],0,true⟩:=
      ⟨h,hB,WH.1,WH.2,⟨[],rfl,List.nodup_nil,(fun b hb=>by cases hb),fun _=>rfl⟩,hA,pR _⟩
     refine wpIn_mono (hw1 (some (K.lp l)) B0 K w _ tmps.size ⟨[],0,true⟩ hs0 hok1 (.inr hn1)) ?_;rintro x a1 w1 ⟨hx,K1,hs1,st1⟩;cases x<;>simp only[nT] at hx;obtain⟨aqM,hb1,aFt,agY,agZ,D1,ag0,hf1,_⟩:=hs1.ok.loop l r1 hl1;have Ho:K1.lp l=K.lp l:=(st1.ext.A l aqJ).2.2.1;have hbr:=run_beginRound (P:=E.P) ag0 (by simp[ug,Hl]);have Q9:=Step.nP (new:=newer aB (aB.nP l {r1 with st:=1})) hs1.ok hs1.hB (r':={r1 with st:=1}) hl1 rfl rfl rfl rfl ag0;rw[Ho] at hbr;refine⟨_,hbr,?_⟩;have aqN:(w1.putObj (K.lp l) (.loop {state:=LoopState.busy,pending:=r1.pend.bind vw,fn:=agY,tmps:=agZ,params:=r1.ps.toArray,assign:=r1.gF,body:=r1.body,defers:=D1}))=
      (w1.putObj (K1.lp l) (.loop {({state:=ug r1.st,pending:=r1.pend.bind vw,fn:=agY,tmps:=agZ,params:=r1.ps.toArray,assign:=r1.gF,body:=r1.body,defers:=D1}:Go.Loop) with state:=ug 1,pending:=r1.pend.bind vw})):=by
      rw[Ho];rfl
     dsimp only;rw[aqN];have aqO:St E B0 (aB.nP l {r1 with st:=1}) K1 _ bJ a1 tmps.size ⟨[],0,true⟩:=
      ⟨Q9.ok,eZ hs1.hB Q9.below.size,hs1.fr.ext Q9.ext,hs1.sz,hs1.df,hs1.st,pR _⟩
     have st01:=Step.trans (new:=newer Y aB) st1 (Q9.mono (fun s hs=>by have h1:aB.next<=s:=hs.1;have h2:s<aB.next:=hs.2;omega));refine wpIn_mono (hw2 (some (K.lp l)) B0 K1 _ a1 tmps.size ⟨[],0,true⟩ aqO hok2 (.inr hn2)) ?_;rintro x a2 w2 ⟨hx2,K2,hs2,st2⟩;obtain⟨aFu,hb2,aFv,aqP,aqQ,D2,ag1,hf2,_⟩:=hs2.ok.loop l r2 hl2;have Ra:K2.lp l=K.lp l:=((st2.ext.A l aqM).2.2.1).trans Ho;have rU:Step E B0 (newer Y cO) Y K w cO K2 w2:=by
      refine(st01.mono ?_).trans (st2.mono ?_)
      .intro s hs;exact⟨hs.1,nD hs.2 aqK⟩
      .intro s hs;exact⟨eZ hle1 hs.1,hs.2⟩
     have fin:∀(r':Ey)(b:Bool),r'.fr=r2.fr->r'.ps=r2.ps->r'.gF=r2.gF->r'.body=r2.body->Y'=cO.nP l r'->v= .bool b->
      wO E B0 Y K w v Y' (.returned (.bool b)) (w2.putObj (K2.lp l) (.loop {({state:=ug r2.st,pending:=r2.pend.bind vw,fn:=aqP,tmps:=aqQ,params:=r2.ps.toArray,assign:=r2.gF,body:=r2.body,defers:=D2}:Go.Loop) with state:=ug r'.st,pending:=r'.pend.bind vw})):=by
      intro r' b h1 h2 h3 h4 h5 h6;have aqR:=Step.nP (new:=newer Y cO) hs2.ok hs2.hB (r':=r') hl2 h1 h2 h3 h4 ag1;subst h5 h6;have Rb:=rU.trans aqR;exact⟨K2,.bool b,Rb.ok,hs2.st,Rb⟩
     have hend:=fun jump=>run_endRound (P:=E.P) jump ag1;rw[Ra] at hend;cases e2 with
     |normal=>
      cases x<;>simp only[nT] at hx2;simp only[iE,mF] at hv;refine⟨_,_,hend none,?_⟩;have:=fin {r2 with st:=0,pend:=none} true rfl rfl rfl rfl hv.2.symm hv.1.symm;rw[Ra] at this;exact this
     |exit i=>
      cases x<;>simp only[nT] at hx2;subst hx2;simp only[iE,mF] at hv;refine⟨_,_,hend (some (.exit i)),?_⟩;have:=fin {r2 with st:=2,pend:=some (.exit i)} false rfl rfl rfl rfl hv.2.symm hv.1.symm;rw[Ra] at this;exact this
     |ret=>
      cases x<;>simp only[nT] at hx2;simp only[iE,mF] at hv;refine⟨_,_,hend (some .ret),?_⟩;have:=fin {r2 with st:=2,pend:=some .ret} false rfl rfl rfl rfl hv.2.symm hv.1.symm;rw[Ra] at this;exact this
    .simp at hv
   .simp at hv
  |exit i=>simp at hv|ret=>simp at hv
 .simp at hv
theorem aqS (hS:Hf E S.code){l:Nat}{args:List V}{v:V}(hv:yt S l args Y=some (v,Y')):Y.next<=Y'.next:=by
 unfold yt at hv;simp only[iP] at hv;obtain⟨r,hl,hv⟩:=hv;split at hv
 .simp only[iP] at hv;obtain⟨⟨e1,bJ,aB⟩,LZ,hv⟩:=hv;cases e1 with
  |normal=>
   simp only[iP] at hv;obtain⟨r1,hl1,hv⟩:=hv;split at hv
   .simp only[iP] at hv;obtain⟨⟨e2,jd,cO⟩,hbody,r2,hl2,hv⟩:=hv;split at hv
    .have h1:=(hS _ _ _ _ _ _ LZ).1;have h2:aB.next<=cO.next:=(hS _ _ _ _ _ _ hbody).1;have h3:Y'.next=cO.next:=by
      cases e2<;>simp only[iE,mF] at hv<;>obtain⟨_,rfl⟩:=hv<;>rfl
     omega
    .simp at hv
   .simp at hv
  |exit i=>simp at hv|ret=>simp at hv
 .simp at hv
end
section
variable {E:Env}{S:iW}{K K':bA}{T T':Nat->Nat}{w w':World}{Y Y':ah}{B0:Nat}
theorem WI {n:Nat}{x y:V}(hp:aR x=true)(h:bq n Y x=some y):y=x:=by
 cases n with
 |zero=>simp[bq] at h|succ n=>unfold bq at h;simp only[hp,if_true,iE] at h;exact h.symm
theorem ag2 {f:V->Option V}{l r:List V}(h:l.mapM f=some r)(g:V->V)(hf:∀i (hi:i<l.length) y,f l[i]=some y->y=g l[i]):r=l.map g:=by obtain⟨h1,h2⟩:=mapM_some h;refine List.ext_getElem (by simp[h1]) (fun i hi hi'=>?_);obtain⟨h3,h4⟩:=h2 i RS;simp only[BS];exact hf i RS _ h4
theorem L6 {l:List V}(h:bY l=true){i:Nat}(hi:i<l.length):aR l[i]=true:=by
 have:=vD h i hi
 rwa[kK hi] at this
theorem ag3 {n:Nat}{c:Cap}{l:List V}{y:V}(hp:bY l=true)(h:bq n Y (.ak c l)=some y):y= .ak .sh l:=by
 cases n with
 |zero=>simp[bq] at h|succ n=>
  unfold bq at h;split at h
  .rename_i hc;simp only[iE] at h;subst h;cases c<;>simp only[aR,dG] at hc;rfl
  .simp only[aY] at h;obtain⟨r,hr,rfl⟩:=h;have:=ag2 hr id (fun i hi y hy=>WI (L6 hp hi) hy);rw[this,List.map_id]
theorem aqT {x:V}(hp:aR x=true):gH x=x:=by
 cases x with
 |ak c l=>cases c<;>simp only[aR,dG] at hp;rfl|_=>rfl
theorem aqU {n:Nat}{x y:V}(hp:aR (gH x)=true)(h:bq n Y x=some y):y=gH x:=by
 cases x with
 |ak c l=>exact ag3 (by simpa [gH,aR] using hp) h|_=>exact WI hp h
theorem ag4 {n:Nat}{x y:V}(hp:aR (er x)=true)(h:bq n Y x=some y):y=er x:=by
 cases x with
 |ak c l=>exact ag3 Qz h|agg cs=>
  have hp':bY (cs.map gH)=true:=Qz
  have hpi:∀i (hi:i<cs.length),aR (gH cs[i])=true:=fun i hi=>by have:=L6 hp' (i:=i) kg;simpa using this
  cases n with
  |zero=>simp[bq] at h|succ n=>
   unfold bq at h;split at h
   .rename_i hc;simp only[iE] at h;subst h;have hc':bY cs=true:=(by simpa [aR] using hc);show V.agg cs=V.agg (cs.map gH);congr 1;refine List.ext_getElem aD (fun i hi hi'=>?_);simp only[BS];exact(aqT (L6 hc' hi)).symm
   .simp only[aY] at h;obtain⟨r,hr,rfl⟩:=h;show V.agg r=V.agg (cs.map gH);rw[ag2 hr gH (fun i hi y hy=>aqU (hpi i hi) hy)]
 |_=>exact WI hp h
theorem Hq {a b:List V}{ca cb:Array Value}(h:RelA K T w a ca)(g:RelA K T w b cb):RelA K T w (a++b) (ca++cb):=by
 obtain⟨h1,h2⟩:=h;obtain⟨g1,g2⟩:=g;refine⟨by simp[h1,g1],fun i hi=>?_⟩;have hi':i<a.length+b.length:=kg
 by_cases hlt:i<a.length
 .have e1:(a++b).getD i aP=a.getD i aP:=by simp[List.getD,VI hlt]
  have e2:(ca++cb).getD i undef=ca.getD i undef:=by simp only[zh];rw[Array.getElem?_append_left RS]
  rw[e1,e2];exact h2 i hlt
 .have e1:(a++b).getD i aP=b.getD (i-a.length) aP:=by simp[List.getD,List.getElem?_append_right (Nat.le_of_not_lt hlt)]
  have e2:(ca++cb).getD i undef=cb.getD (i-a.length) undef:=by simp only[zh];rw[Array.getElem?_append_right RS,<-h1]
  rw[e1,e2];exact g2 _ RS
theorem ag5 {l r:List V}{cl:Array Value}{n:Nat}{K2:bA}{T2:Nat->Nat}(h:RelA K T w l cl)(hm:l.mapM (bq n Y)=some r)(hx:∀x y c,x∈l->Rel K T w x c->bq n Y x=some y->Rel K2 T2 w y c):RelA K2 T2 w r cl:=by
 obtain⟨h1,h2⟩:=h;obtain⟨m1,m2⟩:=mapM_some hm;refine⟨RS,fun i hi=>?_⟩;obtain⟨h3,h4⟩:=m2 i RS;have:=h2 i RS;rw[kK (show i<l.length by omega)] at this;rw[kK h3];exact hx _ _ _ (lM _) this h4
theorem aqV {b:Bool}{l r:List V}(h:vv b Y l=some r):l.length=r.length/\∀i (hi:i<l.length),∃(h':i<r.length),(l[i]= .ak .nil []/\r[i]= .ak .nil [])\/bq 20 Y l[i]=some r[i]:=by
 unfold vv at h;split at h
 .split at h
  .rename_i l;obtain⟨l',hm,rfl⟩:=aY.1 h;obtain⟨m1,m2⟩:=mapM_some hm;refine⟨by simp[m1],fun i hi=>?_⟩;cases i with
   |zero=>exact⟨aD,.inl ⟨rfl,rfl⟩⟩|succ i=>obtain⟨h1,h2⟩:=m2 i kg;exact⟨Gy,.inr uV⟩
  .cases h
 .obtain⟨m1,m2⟩:=mapM_some h;exact⟨m1,fun i hi=>by obtain⟨h1,h2⟩:=m2 i hi;exact⟨h1,.inr h2⟩⟩
theorem aqW {b:Bool}{l r:List V}{cl:Array Value}{K2:bA}{T2:Nat->Nat}(h:RelA K T w l cl)(hm:vv b Y l=some r)(hx:∀x y c,x∈l->Rel K T w x c->(x= .ak .nil []/\y= .ak .nil [])\/bq 20 Y x=some y->Rel K2 T2 w y c):RelA K2 T2 w r cl:=by
 obtain⟨h1,h2⟩:=h;obtain⟨m1,m2⟩:=aqV hm;refine⟨RS,fun i hi=>?_⟩;obtain⟨h3,h4⟩:=m2 i RS;have:=h2 i RS;rw[kK (show i<l.length by omega)] at this;rw[kK h3];exact hx _ _ _ (lM _) this h4
theorem ag6 (hE:o8 E)(h:bH E B0 Y K w):Q7 E K.I K.IM w:=
 ⟨fun b o hi=>(h.I b o hi).1,fun b hi=>(h.IM b hi).1,fun g cs hg=>(h.glob g cs hg).pure (by simpa [aR] using hE.flat g cs hg) (fun _ _ h=>⟨h,rfl⟩) (fun _ h=>⟨h,rfl⟩)⟩
theorem aqX (hE:o8 E)(h:bH E B0 Y K w):Q7 E (fun b o=>∃v,w.cell? (at_ b o)=some v) (fun b=>∃es fu,w.heap[b]? =some (.map es fu)) w:=
 ⟨fun _ _ hi=>hi,fun _ hi=>hi,fun g cs hg=>(h.glob g cs hg).pure (by simpa [aR] using hE.flat g cs hg) (fun b o hi=>⟨(h.I b o hi).1,rfl⟩) (fun b hi=>⟨(h.IM b hi).1,rfl⟩)⟩
theorem ag7 (hE:o8 E)(hS:EL E S.call)(h:bH E B0 Y K w)(hB:B0<=w.heap.size)(hA:∀s,K.A s->s<Y.next){d:Nat}{fv:V}{cf:Value}{args:List V}{dO:Array Value}{v:V}(hfn:∃f a b,fv= .fn (.func f) a b)(hv:jL E S d Y fv args=some (v,Y'))(rf:Rel K Y.top w fv cf)(ra:RelA K Y.top w args dO):
 Y.next<=Y'.next/\∃f first cap,cf= .func (.func f) first cap/\Ck E f/\CallsIn Fence.wide 0 E.P f (first++dO++cap) w (wO E B0 Y K w v Y'):=by
 obtain⟨f,a,b,rfl⟩:=hfn;unfold jL at hv
 .dsimp only at hv;cases rf with
  |fn _ _ _ kV bv ha hb L8 L9=>
  have Ma:RelA K Y.top w (a++args++b) (kV++dO++bv):=Hq (Hq ⟨ha,L8⟩ ra) ⟨hb,L9⟩;split at hv
  .obtain⟨h1,h2,h3⟩:=hS _ _ _ _ _ _ hv;exact⟨h1,f,kV,bv,rfl,h2,h3 none B0 K w _ h hB hA Ma⟩
  .simp only[iP] at hv;obtain⟨dN,has,r,hr,hv⟩:=hv;split at hv
   .rename_i hcl;simp only[iE,mF] at hv;obtain⟨rfl,rfl⟩:=hv;obtain⟨p1,p2⟩:=agX hE hS hr;refine⟨iR _,f,kV,bv,rfl,p1,?_⟩;simp only[wI,lK] at hcl;rcases hcl with hcl|hcl
    .have Mc:RelA (bA.lend K.I K.IM) (fun _=>0) w dN (kV++dO++bv):=(by refine ag5 Ma has (fun x y c hx o9 hxy=>?_);have hp:=hcl x hx;rw[ag4 hp hxy];exact(Wj o9).pure hp (fun _ _ h=>⟨h,rfl⟩) (fun _ h=>⟨h,rfl⟩));refine(p2 _ _ w _ (ag6 hE h) Mc).mono ?_;intro e w' hp;cases e with
     |returned c=>obtain⟨hb',hr'⟩:=hp;have st:=Step.grow (new:=newer Y Y) h hB hb';exact⟨_,hr'.LY (fun _ _ h=>⟨h,rfl⟩) (fun _ h=>⟨h,rfl⟩),st.ok,hA,st⟩
     |panicked ch=>exact hp.elim|outgrown=>exact hp.elim
    .have Mc:RelA (bA.lend (fun b o=>∃v,w.cell? (at_ b o)=some v) (fun b=>∃es fu,w.heap[b]? =some (.map es fu))) (fun _=>0) w dN (kV++dO++bv):=(by refine ag5 Ma has (fun x y c hx o9 hxy=>?_);exact(WA (T':=fun _=>0) h 20 x y c o9 hxy).LY (fun _ _ h=>⟨h.2,rfl⟩) (fun _ h=>⟨h.2,rfl⟩));refine(p2 _ _ w _ (aqX hE h) Mc).mono ?_;intro e w' hp;cases e with
     |returned c=>obtain⟨hb',hr'⟩:=hp;have st:=Step.grow (new:=newer Y Y) h hB hb';exact⟨_,hr'.flat hcl,st.ok,hA,st⟩
     |panicked ch=>exact hp.elim|outgrown=>exact hp.elim
   .simp at hv
theorem aqY (h:bH E B0 Y K w)(hB:B0<=w.heap.size){st:Nat}(hst:¬K.A st){aB:ah}{K1:bA}{v0 v:V}{c:Value}(hv:rO Y st aB v0=some (v,Y'))(r1:Rel K1 aB.top w' v0 c)(s1:bH E w.heap.size aB K1 w')(hb:Below w.heap.size w w')(hI:∀b o,K1.I b o->K.I b o\/w.heap.size<=b)(VO:∀b,K1.IM b->K.IM b\/w.heap.size<=b):∃K',Rel K' Y'.top w' v c/\Step E B0 (· =st) Y K w Y' K' w':=by
 have Rc:∀b o,K1.I b o->aQ.grow K.I w.heap.size w' b o:=fun b o hi=>⟨hI b o hi,(s1.I b o hi).1⟩;have ag8:∀b,K1.IM b->yx K.IM w.heap.size w' b:=fun b hi=>⟨VO b hi,(s1.IM b hi).1⟩;unfold rO at hv;split at hv
 .rename_i cp l;split at hv
  .rename_i hp;cases cp with
   |nil=>
    cases hv;refine⟨_,?_,Step.grow h hB hb⟩;cases r1 with
    |gq _ a ha hc=>exact .gq .nil a ha trivial|ak _ _ b o n cap val hle hn hcell hrel hc=>exact hc.elim
   |full=>
    cases hv;refine⟨_,?_,Step.grow h hB hb⟩;cases r1 with
    |gq _ a ha hc=>exact .gq .full a (fun h=>cZ) trivial
    |ak _ _ b o n cap val hle hn hcell hrel hc=>
     exact .ak .full l b o n cap val hle hn (fun i j hi hj=>⟨(hcell i j hi hj).1,Rc _ _ (hcell i j hi hj).2⟩)
      (fun i j hi hj=>(hrel i j hi hj).pure (Wz (vD hp i hi) (by rw[hn i hi];exact hj)) (fun b o hi=>⟨Rc b o hi,rfl⟩) (fun b hi=>⟨ag8 b hi,rfl⟩)) hc
   |own n s=>
    dsimp only at hv;split at hv
    .rename_i htop;cases hv;have hown:K1.A s->K1.lo s<K1.hi s->w.heap.size<=K1.ob s/\∀o,K1.lo s<=o->o<K1.hi s->(∃v,w'.cell? (at_ (K1.ob s) o)=some v)/\w'.frozen? (at_ (K1.ob s) o)=false:=fun ha hl=>by obtain⟨a1,a2,a3⟩:=s1.own s ha hl;exact⟨a1,fun o h1 h2=>(a3 o h1 h2).2⟩
     have hnot:K1.A s->∀b o,K1.I b o->¬(b=K1.ob s/\K1.lo s<=o/\o<K1.hi s):=(by rintro ha b o hi ⟨rfl,h2,h3⟩;exact((s1.own s ha RS).2.2 o h2 h3).1 hi);have hA:K1.A s:=by
      cases r1 with
      |gq _ a ha hc=>exact hc.1|ak _ _ b o n' cap val hle hn hcell hrel hc=>exact hc.2.1
     refine⟨_,?_,Step.pV h hB hst hb (hown hA)⟩;have t1:(Y.eB st l.length).top st=l.length:=upd_same _ _ _;have q1:(K.pV w.heap.size w' st (K1.ob s) (K1.lo s) (K1.hi s)).ob st=K1.ob s:=upd_same _ _ _;have q2:(K.pV w.heap.size w' st (K1.ob s) (K1.lo s) (K1.hi s)).lo st=K1.lo s:=upd_same _ _ _;have q3:(K.pV w.heap.size w' st (K1.ob s) (K1.lo s) (K1.hi s)).hi st=K1.hi s:=upd_same _ _ _;cases r1 with
     |gq _ a ha hc=>refine .gq _ a (fun h=>cZ) ⟨.inr rfl,fun _=>?_⟩;rw[q2,q3];exact hc.2 htop
     |ak _ _ b o n' cap val hle hn hcell hrel hc=>
      refine .ak _ l b o n' cap val hle hn (fun i j hi hj=>⟨(hcell i j hi hj).1,Rc _ _ (hcell i j hi hj).2,hnot hA _ _ (hcell i j hi hj).2⟩)
       (fun i j hi hj=>(hrel i j hi hj).pure (Wz (vD hp i hi) (by rw[hn i hi];exact hj)) (fun b o hi=>⟨⟨Rc b o hi,hnot hA b o hi⟩,rfl⟩) (fun b hi=>⟨ag8 b hi,rfl⟩)) ?_
      refine⟨hc.1,.inr rfl,by rw[t1];exact iR _,fun _=>?_⟩;rw[q1,q2,q3];exact hc.2.2.2 htop.symm
    .cases hv
   |sh=>cases hv
  .cases hv
 .rename_i loc s off len cap bF ag;split at hv
  .rename_i h0;obtain⟨rfl,rfl⟩:=h0;obtain⟨cs,hcs,hv⟩:=iP.1 hv;cases hv;have fin:∀fB:Nat,K1.A s->fB*bF<=K1.sz s->∃K',Rel K' (Y.eB st 0).top w' (.ak (.own bF st) []) (.slice (some (at_ (K1.blk s) 0)) 0 fB)/\Step E B0 (· =st) Y K w (Y.eB st 0) K' w':=by
    intro fB hA hsz;obtain⟨g1,_,_⟩:=s1.wL hcs;obtain⟨a1,a2,a3⟩:=s1.obj _ _ _ g1;refine⟨K.pV w.heap.size w' st (K1.blk s) 0 (fB*bF),?_,Step.pV h hB hst hb (fun hlt=>?_)⟩
    .have t1:(Y.eB st 0).top st=0:=upd_same _ _ _;refine .ak _ [] (K1.blk s) 0 bF fB (fun _ _=>undef) (pR _) (fun i hi=>absurd hi (gQ i)) (fun i j hi=>absurd hi (gQ i)) (fun i j hi=>absurd hi (gQ i)) ?_;refine⟨rfl,.inr rfl,pR _,fun _=>⟨upd_same _ _ _,?_,?_⟩⟩
     .show upd K.lo st 0 st=_;rw[upd_same];simp
     .show upd K.hi st (fB*bF) st=_;rw[upd_same];simp
    .have hne:cs≠[]:=(by rintro rfl;have:=a2.1 rfl;omega);obtain⟨b1,vals,t,b2,b3,b4,b5⟩:=a2.2 hne;refine⟨b1,fun o h1 h2=>⟨⟨vals[o]' RS,?_⟩,?_⟩⟩
     .simp[World.cell?,b2]
     .unfold World.frozen?;simp only[b2];simp
   cases r1 with
   |aS _ _ _ _ _ _ _ fB hA hc hle hsz=>exact fin fB hA (by simpa using hsz)|oL _ _ _ _ hA=>refine⟨K.pV w.heap.size w' st 0 0 0,?_,Step.pV h hB hst hb (fun hlt=>absurd hlt (Nat.lt_irrefl _))⟩;refine .gq _ none (fun h=>cZ) ⟨.inr rfl,fun _=>?_⟩;show upd K.hi st 0 st=upd K.lo st 0 st;rw[upd_same,upd_same]
  .cases hv
 .cases hv
theorem ag9 {st:Nat}{aB:ah}{v0 v:V}(hv:rO Y st aB v0=some (v,Y')):Y'.next=Y.next:=by
 by_cases hvw:∃loc s off len cap bF ag,v0= .aS loc s off len cap bF ag
 .obtain⟨loc,s,off,len,cap,bF,ag,rfl⟩:=hvw;unfold rO at hv;dsimp only at hv;split at hv
  .obtain⟨_,_,hv⟩:=iP.1 hv;cases hv;rfl
  .cases hv
 cases v0<;>first| (cases hv;done)|exact absurd ⟨_,_,_,_,_,_,_,rfl⟩ hvw|skip
 rename_i cp l;have hv':(if bY l=true then (match cp with
  |.nil=>some (V.ak .nil l,Y)|.full=>some (.ak .full l,Y)|.own n s=>if aB.top s=l.length then some (.ak (.own n st) l,Y.eB st l.length) else none|.sh=>none) else none)=some (v,Y'):=hv
 split at hv'
 .cases cp with
  |nil=>cases hv';rfl|full=>cases hv';rfl|own n s=>dsimp only at hv';split at hv'<;>cases hv';rfl|sh=>cases hv'
 .cases hv'
theorem aqZ (hE:o8 E)(hS:EL E S.call)(h:bH E B0 Y K w)(hB:B0<=w.heap.size){st:Nat}(hst:¬K.A st){fv:V}{cf:Value}{args:List V}{dO:Array Value}{v:V}(hv:qO E S Y st fv args=some (v,Y'))(rf:Rel K Y.top w fv cf)(ra:RelA K Y.top w args dO):
 Y'.next=Y.next/\∃f first cap,cf= .func (.func f) first cap/\Ck E f/\CallsIn Fence.wide 0 E.P f (first++dO++cap) w (fun e w'=>∃c K',e= .returned c/\Rel K' Y'.top w' v c/\Step E B0 (· =st) Y K w Y' K' w'):=by
 unfold qO at hv;split at hv
 .rename_i f a b;split at hv
  .rename_i hcl;simp only[iP] at hv;obtain⟨dN,has,⟨v0,aB⟩,hr,hv⟩:=hv;cases rf with
   |fn _ _ _ kV bv ha hb L8 L9=>
   have Ma:RelA K Y.top w (a++args++b) (kV++dO++bv):=Hq (Hq ⟨ha,L8⟩ ra) ⟨hb,L9⟩;obtain⟨_,p1,p2⟩:=hS _ _ _ _ _ _ hr;have hnext:=ag9 hv;refine⟨hnext,f,kV,bv,rfl,p1,?_⟩;simp only[lK] at hcl;have Mc:RelA (bA.lend K.I K.IM) ah.init.top w dN (kV++dO++bv):=by
    refine aqW Ma has (fun x y c hx o9 hxy=>?_);rcases hxy with ⟨rfl,rfl⟩|hxy
    .cases o9 with
     |gq _ a ha hc=>exact .gq .nil a ha trivial|ak _ _ b o n cap val hle hn hcell hrel hc=>exact hc.elim
    have hp:=hcl x hx;rw[ag4 hp hxy];exact(Wj o9).pure hp (fun _ _ h=>⟨h,rfl⟩) (fun _ h=>⟨h,rfl⟩)
   refine(p2 none w.heap.size (bA.lend K.I K.IM) w _ (WB (ag6 hE h)) (iR _) (fun s hs=>hs.elim) Mc).mono ?_;intro e w' hp;cases e with
   |returned c=>obtain⟨K1,r1,s1,_,st1⟩:=hp;obtain⟨K',g1,g2⟩:=aqY h hB hst hv r1 s1 st1.below st1.zn st1.zo;exact⟨c,K',rfl,g1,g2⟩
   |panicked ch=>exact hp.elim|outgrown=>exact hp.elim
  .cases hv
 .cases hv
theorem Rf (hE:o8 E){f:FuncId}(hb:Ck E f)(args:Array Value)(w:World):(callFunc f args).run E.P w= .ok (.enter f args) w:=by obtain⟨fn,c,hf,hc⟩:=hb;have hn:=hE.name f fn hf;simp[callFunc,hf,hc,hn]
theorem aq0 (hE:o8 E)(hS:Sound E S){fr fr':Fr}{a:Act}{n:Nat}{ds:He}(hs:St E B0 Y K w fr a n ds){st:Nat}(hst:¬K.A st){o:Oper}{v:V}(hop:opC E S fr Y st o=some (v,fr',Y')):fr'=fr/\Y.next<=Y'.next/\(∀next Q ro,(∀c w' K',Rel K' Y'.top w' v c->Step E B0 (fun s=>s=st\/newer Y Y' s) Y K w Y' K' w'->next (a.put o.dst c) w')->
   o.wpIn (oW ro) 0 E.P a w next Q):=by
 have hdone:∀{v Y'},vC E B0 (· =st) Y K w (execOp a.eval o) v Y'->(∀c,o.op≠ .defer c)->∀next Q ro,(∀c w' K',Rel K' Y'.top w' v c->Step E B0 (fun s=>s=st\/newer Y Y' s) Y K w Y' K' w'->next (a.put o.dst c) w')->
  o.wpIn (oW ro) 0 E.P a w next Q:=fun hd ho next Q ro hn=>aqx ho hd (fun c w' K' hr hst=>hn c w' K' hr (hst.mono (fun _ h=>.inl h)))
 unfold opC at hop;split at hop
 .rename_i c hc;have hnd:∀d,o.op≠ .defer d:=fun d hd=>by rw[hc] at hd;cases hd
  split at hop
  .rename_i b hb;simp only[aY,mF] at hop;obtain⟨⟨v1,aB⟩,hv,rfl,rfl,rfl⟩:=hop;have hsame:=agU hv;refine⟨rfl,by rw[hsame.1];exact iR _,hdone ?_ hnd⟩;have hargs:=EJ hs.ok hs.fr c.args;have hex:execOp a.eval o=builtin b c.argTypes o.type (c.args.map fun|.const _=>true|_=>false) (c.args.map a.eval):=by unfold execOp;simp only[hc];unfold resolve;simp only[hb];rfl
   rw[hex];exact aqk hs.ok hs.hB hst hargs hv
  .rename_i f hf;split at hop
   .simp only[aY,mF] at hop;obtain⟨⟨v1,aB⟩,hv,rfl,rfl,rfl⟩:=hop;obtain⟨hn1,g,first,cap,hcf,hbody,hcall⟩:=aqZ hE hS.call hs.ok hs.hB hst hv (Ay hs.ok hs.fr f) (EJ hs.ok hs.fr c.args);refine⟨rfl,by rw[hn1];exact iR _,fun next Q ro hn=>⟨fun _ _=>trivial,?_⟩⟩;rw[Q6 _ _ hnd];have hex:(execOp a.eval o).run E.P w= .ok (.enter g (first++c.args.map a.eval++cap)) w:=(by unfold execOp;simp only[hc];unfold resolve;simp only[hf,hcf,Deferred.ofValue,Sem.run_bind,Sem.run_pure,Result.andThen_ok,invoke];exact Rf hE hbody _ _);rw[hex,Oper.uponIn_enter];refine⟨fun hd=>Qx,?_⟩;have h2:CallsIn (oW ro) (0-1) E.P g (first++c.args.map a.eval++cap) w (fun e w'=>∃c K',e= .returned c/\Rel K' aB.top w' v1 c/\Step E B0 (· =st) Y K w aB K' w'):=hcall;refine h2.mono ?_;intro e w' hp;obtain⟨cv,K',rfl,r1,st1⟩:=hp;exact hn cv w' K' r1 (st1.mono (fun _ h=>.inl h))
   simp only[aY,mF] at hop;obtain⟨⟨v1,aB⟩,hv,rfl,rfl,rfl⟩:=hop;have hcases:(∃g a b,fr.ev E f= .fn (.func g) a b)\/∃l,fr.ev E f= .fn (.yield l) [] []:=by
    unfold jL at hv;split at hv
    .rename_i g a b he;exact .inl ⟨g,a,b,he⟩
    .rename_i l he;exact .inr ⟨l,he⟩
    .simp at hv
   rcases hcases with hfn| ⟨l,hy⟩
   rotate_left
   .have hv':yt S l (c.args.toList.map (fr.ev E)) Y=some (v1,aB):=(by rw[hy] at hv;exact hv);obtain⟨hn1,fn,tmps,gF,body,WG,aq1⟩:=aqI hS.code hs.ok hs.hB hs.st hv' (EJ hs.ok hs.fr c.args);have hcf:a.eval f= .func (.yield (K.lp l)) #[] #[]:=(by have:=Ay hs.ok hs.fr f;rw[hy] at this;generalize a.eval f=cf at this;cases this;rfl);refine⟨rfl,hn1,fun next Q ro hn=>⟨fun _ _=>trivial,?_⟩⟩;rw[Q6 _ _ hnd];have hex:(execOp a.eval o).run E.P w= .ok (.round (K.lp l) fn tmps gF body) w:=(by unfold execOp;simp only[hc];unfold resolve;simp only[hf,hcf,Deferred.ofValue,Sem.run_bind,Sem.run_pure,Result.andThen_ok,invoke];simpa using WG);rw[hex,Oper.uponIn_round];refine⟨fun hd=>Qx,?_⟩;have h2:RoundIn (oW ro) (0-1) E.P (K.lp l) fn tmps gF body w (wO E B0 Y K w v1 aB):=aq1;refine h2.mono ?_;intro e w' hp;cases e with
    |returned cv=>obtain⟨K',r1,_,_,st1⟩:=hp;exact hn cv w' K' r1 (st1.mono (fun _ h=>.inr h))
    |panicked ch=>exact hp.elim|outgrown=>exact hp.elim
   obtain⟨hn1,g,first,cap,hcf,hbody,hcall⟩:=ag7 hE hS.call hs.ok hs.hB hs.st hfn hv (Ay hs.ok hs.fr f) (EJ hs.ok hs.fr c.args);refine⟨rfl,hn1,fun next Q ro hn=>⟨fun _ _=>trivial,?_⟩⟩;rw[Q6 _ _ hnd];have hex:(execOp a.eval o).run E.P w= .ok (.enter g (first++c.args.map a.eval++cap)) w:=by unfold execOp;simp only[hc];unfold resolve;simp only[hf,hcf,Deferred.ofValue,Sem.run_bind,Sem.run_pure,Result.andThen_ok,invoke];exact Rf hE hbody _ _
   rw[hex,Oper.uponIn_enter];refine⟨fun hd=>Qx,?_⟩;have h2:CallsIn (oW ro) (0-1) E.P g (first++c.args.map a.eval++cap) w (wO E B0 Y K w v1 aB):=hcall;refine h2.mono ?_;intro e w' hp;cases e with
   |returned cv=>obtain⟨K',r1,_,_,st1⟩:=hp;exact hn cv w' K' r1 (st1.mono (fun _ h=>.inr h))
   |panicked ch=>exact hp.elim|outgrown=>exact hp.elim
  .simp at hop
 .simp at hop
 .rename_i hnc hnd;simp only[aY,mF] at hop;obtain⟨⟨v1,aB⟩,hv,rfl,rfl,rfl⟩:=hop;have hsame:=agV hv;exact⟨rfl,by rw[hsame.1];exact iR _,hdone (aqj hs.ok hs.hB hs.fr hst hv) hnd⟩
end
section
variable (E:Env)(S:iW)
def opsL (ops:List Oper)(base:Nat):List Nat->Fr->ah->Option (Fr×ah)
 | [],fr,Y=>some (fr,Y)|i::l,fr,Y=>(jk E S ops base i fr Y).bind fun (fr,Y)=>opsL ops base l fr Y
theorem aq2 (all:List Oper)(base:Nat):∀(os:List Oper)(k:Nat)(fr:Fr)(Y:ah),(∀j,os[j]? =all[k+j]?)->
 opsE E S all (base+k) os fr Y=opsL E S all base (List.range' k os.length) fr Y:=by
 intro os;induction os with
 |nil=>intro k fr Y _;rfl|cons o os ih=>
  intro k fr Y h;have h0:all[k]? =some o:=by simpa using (h 0).symm
  have ih':=fun fr Y=>ih (k+1) fr Y (fun j=>by have:=h (j+1);simpa [oZ,Nat.add_comm 1 j] using this);simp only[List.length_cons,List.range'_succ,opsL,jk,h0,opsE];cases hwt:fJ all fr o with
  |none=>rfl|some t=>
  simp only[Option.bind_some];split
  .cases hop:opC E S fr Y (base+k) o with
   |none=>rfl|some r=>obtain⟨v,bJ,aB⟩:=r;exact ih' _ _
  .exact ih' _ _
theorem aq3 (ops:Array Oper)(base:Nat)(fr:Fr)(Y:ah):opsE E S ops.toList base ops.toList fr Y=opsL E S ops.toList base (List.range ops.size) fr Y:=by have:=aq2 E S ops.toList base ops.toList 0 fr Y (fun j=>aD);rw[Nat.add_zero] at this;rw[this,List.range_eq_range',Array.length_toList]
end
section
variable {E:Env}{S:iW}{K K':bA}{w w':World}{Y Y':ah}{B0:Nat}{fr fr':Fr}{a:Act}{n:Nat}{ds:He}
theorem aha (hf:mU K Y.top w fr a.tmps)(ops:Array Oper)(o:Oper)(hsz:GQ a.tmps.size ops.toList=true){t:Bool}(hv:fJ ops.toList fr o=some t):
 Region.wanted o (yielded ops a.tmps)=t:=by
 unfold Region.wanted;unfold fJ at hv;cases hg:o.guard with
 |none=>rw[hg] at hv;exact kS hv|some g=>
  obtain⟨j,want⟩:=g;rw[hg] at hv;simp only at hv⊢;cases hd:(ops.toList[j]?).bind (·.dst) with
  |none=>
   have hd':(ops[j]?).bind (·.dst)=none:=by simpa using hd
   simp only[hd,iE] at hv;simp only[yielded,hd',<-hv];rfl
  |some t=>
   have hd':(ops[j]?).bind (·.dst)=some t:=by simpa using hd
   have ht:t<a.tmps.size:=by
    cases ho:ops[j]? with
    |none=>simp[ho] at hd'|some o'=>have hm:o'∈ops.toList:=(by simpa using Array.mem_of_getElem? ho);simp only[GQ,lK] at hsz;have h1:=hsz o' hm;have h2:o'.dst=some t:=(by simpa [ho] using hd');rw[h2] at h1;simpa using h1
   have hr:=hf t;have hget:a.tmps[t]? =some (a.tmps.getD t undef):=by simp[Array.getD,ht]
   simp only[hd] at hv;simp only[yielded,hd',Option.bind_some,hget];generalize a.tmps.getD t undef=c at hr;generalize fr.tm t=x at hr hv;cases hr<;>simp only[iE,reduceCtorEq] at hv<;>first|exact hv| (rw[<-hv];rfl)
theorem ahb (h:bH E B0 Y K w)(k:Nat):bH E B0 {Y with next:=k} K w:=⟨h.obj,h.own,h.I,h.IM,h.loop,h.glob,h.rb,h.D⟩
theorem aq4 (hS:Sound E S){st:Nat}{o:Oper}{v:V}(hop:opC E S fr Y st o=some (v,fr',Y')):fr'=fr/\Y.next<=Y'.next:=by
 unfold opC at hop;split at hop
 .split at hop
  .simp only[aY,mF] at hop;obtain⟨⟨v1,aB⟩,hv,rfl,rfl,rfl⟩:=hop;exact⟨rfl,by rw[(agU hv).1];exact iR _⟩
  .split at hop
   .simp only[aY,mF] at hop;obtain⟨⟨v1,aB⟩,hv,rfl,rfl,rfl⟩:=hop;refine⟨rfl,?_⟩;unfold qO at hv;split at hv
    .split at hv
     .simp only[iP] at hv;obtain⟨_,_,_,_,hv⟩:=hv;rw[ag9 hv];exact iR _
     .cases hv
    .cases hv
   simp only[aY,mF] at hop;obtain⟨⟨v1,aB⟩,hv,rfl,rfl,rfl⟩:=hop;refine⟨rfl,?_⟩;unfold jL at hv;split at hv
   .split at hv
    .exact(hS.call _ _ _ _ _ _ hv).1
    .simp only[iP] at hv;obtain⟨_,_,_,_,hv⟩:=hv;split at hv
     .simp only[iE,mF] at hv;rw[hv.2];exact iR _
     .simp at hv
   .exact aqS hS.code hv
   .simp at hv
  .simp at hop
 .simp at hop
 .simp only[aY,mF] at hop;obtain⟨⟨v1,aB⟩,hv,rfl,rfl,rfl⟩:=hop;exact⟨rfl,by rw[(agV hv).1];exact iR _⟩
theorem Md (hS:Sound E S)(ops:List Oper)(base:Nat):∀(l:List Nat)(fr:Fr)(Y:ah),opsL E S ops base l fr Y=some (fr',Y')->Y.next<=Y'.next:=by
 intro l;induction l with
 |nil=>intro fr Y h;simp only[opsL,iE,mF] at h;rw[h.2];exact iR _|cons i l ih=>
  intro fr Y h;simp only[opsL,iP] at h;obtain⟨⟨bJ,aB⟩,hs,h⟩:=h;refine eZ ?_ (ih _ _ h);unfold jk at hs;split at hs
  .simp only[iE,mF] at hs;rw[hs.2];exact iR _
  .simp only[iP] at hs;obtain⟨t,_,hs⟩:=hs;split at hs
   .simp only[aY,mF] at hs;obtain⟨⟨v,jd,cO⟩,hop,rfl,rfl⟩:=hs;exact(aq4 hS hop).2
   .simp only[iE,mF] at hs;rw[hs.2];exact iR _
theorem ahc (hE:o8 E)(hS:Sound E S)(ops:Array Oper)(base:Nat)(hops:GQ n ops.toList=true)(ro:Option Nat)(Q:Exit->Act->World->Prop):
 ∀(l:List Nat)(fr:Fr)(Y:ah)(K:bA)(w:World)(a:Act),opsL E S ops.toList base l fr Y=some (fr',Y')->l.Nodup->(∀i∈l,i<ops.size)->St E B0 Y K w fr a n ds->base+ops.size<=Y.next->(∀i∈l,¬K.A (base+i))->
  (∀a' K' w',St E B0 Y' K' w' fr' a' n ds->Step E B0 (fun s=>(base<=s/\s<base+ops.size)\/newer Y Y' s) Y K w Y' K' w'->Q .normal a' w')->wpOpsIn (oW ro) 0 E.P ops Q l a w:=by
 intro l;induction l with
 |nil=>intro fr Y K w a hl _ _ hs _ _ hq;simp only[opsL,iE,mF] at hl;obtain⟨rfl,rfl⟩:=hl;exact hq a K w hs (.refl hs.ok)
 |cons i l ih=>
  intro fr Y K w a hl hnd hlt hs hbase WJ hq;simp only[opsL,iP] at hl;obtain⟨⟨bJ,aB⟩,hstep,hl⟩:=hl;have hil:i∉l:=(Ao.1 hnd).1;have hi:i<ops.size:=hlt i aD;have hoi:ops[i]? =some ops[i]:=by simp[hi]
  have aq5:ops.toList[i]? =some ops[i]:=by simpa using hoi
  simp only[jk,aq5,iP] at hstep;obtain⟨t,hwv,hstep⟩:=hstep;have hw:=aha hs.fr ops ops[i] (by rw[hs.sz];exact hops) hwv;have hdst:∀t,ops[i].dst=some t->t<n:=by intro t ht;simp only[GQ,lK] at hops;have:=hops ops[i] aD;rw[ht] at this;simpa using this
  unfold wpOpsIn;simp only[hoi,hw];split at hstep
  .rename_i hwt;simp only[aY,mF] at hstep;obtain⟨⟨v,jd,cO⟩,hop,rfl,rfl⟩:=hstep;obtain⟨rfl,hnx,hwp⟩:=aq0 hE hS hs (WJ i aD) hop;dsimp only at hl;simp only[hwt,if_true];have hA1:∀{K1:bA}{w1:World},Step E B0 (fun s=>s=base+i\/newer Y cO s) Y K w cO K1 w1->(∀s,K1.A s->s<cO.next)/\∀j∈l,¬K1.A (base+j):=by
    intro K1 w1 st;refine⟨fun s hsA=>?_,fun j hj aq6=>?_⟩
    .rcases st.A s hsA with h1|h1|h1
     .have:=hs.st s h1;omega
     .omega
     .exact h1.2
    .have hji:j≠i:=fun e=>hil (e▸hj);rcases st.A _ aq6 with h1|h1|h1
     .exact WJ j Eh h1
     .omega
     .have:=hlt j Eh;have:=h1.1;omega
   refine hwp _ _ ro (fun c w1 K1 hr st=>?_)
   .obtain⟨hA2,hA3⟩:=hA1 st;have hs1:St E B0 cO K1 w1 (jd.put ops[i].dst v) (a.put ops[i].dst c) n ds:=hs.put st hr hdst hA2;refine(ih _ _ K1 w1 _ hl (Ao.1 hnd).2 (fun j hj=>hlt j Eh) hs1 RS hA3) (fun a' K' w' hs' st'=>hq a' K' w' hs' ?_);refine(st.mono ?_).trans (st'.mono ?_)
    .intro s h1;rcases h1 with h1|h1
     .exact .inl ⟨RS,RS⟩
     .exact .inr ⟨h1.1,nD h1.2 (Md hS _ _ _ _ _ hl)⟩
    .intro s h1;rcases h1 with h1|h1
     .exact .inl h1
     .exact .inr ⟨eZ hnx h1.1,h1.2⟩
  .rename_i hwt;simp only[iE,mF] at hstep;obtain⟨rfl,rfl⟩:=hstep;have hs1:St E B0 Y K w (fr.put ops[i].dst aP) (a.put ops[i].dst undef) n ds:=hs.put (new:=fun _=>False) (.refl hs.ok) (.undef _ _ _) hdst hs.st;have:=ih _ _ K w _ hl (Ao.1 hnd).2 (fun j hj=>hlt j Eh) hs1 hbase (fun j hj=>WJ j Eh);simp only[hwt];exact⟨fun _ _=>trivial,this hq⟩
end
end aQ
end
