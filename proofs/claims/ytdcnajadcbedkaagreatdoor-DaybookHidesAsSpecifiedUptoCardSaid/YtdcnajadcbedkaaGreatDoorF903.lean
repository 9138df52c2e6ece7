import Derived.ControlIn
import Derived.RangeFuncLeaves
import Derived.RangeFuncRecord
import Derived.Scope
import Derived.Test.YtdcnajadcbedkaaGreatDoorF902
set_option linter.all false
section
namespace aR
open Go Go.RowKit
section
variable {E:Env}{B0:Nat}{Y:ah}{K:bB}{w:World}{new:Nat->Prop}{T:Nat->Nat}
def RelA (K:bB)(T:Nat->Nat)(w:World)(l:List V)(cl:Array Value):Prop:=l.length=cl.size/\∀i,i<l.length->Rel K T w (l.getD i aP) (cl.getD i undef)
theorem WV {x:V}{cl:Array Value}(h:RelA K T w [x] cl):∃c,cl= #[c]/\Rel K T w x c:=by
 obtain⟨h1,h2⟩:=h;have hs:cl.size=1:=by simpa using h1.symm
 refine⟨cl[0],?_,?_⟩
 .apply Array.ext
  .simpa using hs
  .intro i h1 h2;obtain rfl:i=0:=RS
   rfl
 .have:=h2 0 aD
  rwa[Hu RS] at this
theorem ahG {x y:V}{cl:Array Value}(h:RelA K T w [x,y] cl):∃c d,cl= #[c,d]/\Rel K T w x c/\Rel K T w y d:=by
 obtain⟨h1,h2⟩:=h;have hs:cl.size=2:=by simpa using h1.symm
 refine⟨cl[0],cl[1],?_,?_,?_⟩
 .apply Array.ext
  .simpa using hs
  .intro i h1 h2;have:i=0\/i=1:=RS
   rcases this with rfl|rfl<;>rfl
 .have:=h2 0 aD
  rwa[Hu RS] at this
 .have:=h2 1 aD
  rwa[Hu RS] at this
theorem ahH {x:V}{l:List V}{cl:Array Value}(h:RelA K T w (x::l) cl):∃c cs,cl.toList=c::cs/\Rel K T w x c/\l.length=cs.length/\∀i,i<l.length->Rel K T w (l.getD i aP) (cs.getD i undef):=by
 obtain⟨h1,h2⟩:=h;cases hc:cl.toList with
 |nil=>
  have:cl.size=0:=by rw[<-Array.length_toList,hc];rfl
  simp[this] at h1
 |cons c cs=>
  have hg:∀i,cl.getD i undef=(c::cs).getD i undef:=fun i=>by rw[<-hc,Rh]
  have hl:cl.size=cs.length+1:=by rw[<-Array.length_toList,hc];rfl
  refine⟨c,cs,rfl,?_,by simp at h1;omega,fun i hi=>?_⟩
  .have:=h2 0 aD;rw[hg] at this;simpa using this
  .have:=h2 (i+1) dz;rw[hg] at this;simpa using this
theorem ara (h:bH E B0 Y K w)(hB:B0<=w.heap.size){aj:Bool}{loc:Option Loc}{st:Nat}(hst:¬K.A st){b:Builtin}{tys:Array TypeId}{ty:TypeId}{consts:Array Bool}{args:List V}{dQ:Array Value}{v:V}{Y':ah}(hr:RelA K Y.top w args dQ)(hv:qI E aj loc Y st b tys args=some (v,Y')):vv E B0 (· =st) Y K w (builtin b tys ty consts dQ) v Y':=by
 unfold qI at hv;split at hv
 .rename_i x;simp only[iP,aZ,mF] at hv;obtain⟨t,ht,n,hn,rfl,rfl⟩:=hv;obtain⟨c,rfl,hx⟩:=WV hr;exact .iw h ⟨_,aq3 h ht hx hn,.int .i64 n⟩
 .rename_i x;simp only[iP] at hv;obtain⟨t,ht,e,he,hv⟩:=hv;obtain⟨c,rfl,hx⟩:=WV hr;obtain⟨rfl,r⟩:=aq4 (ty:=ty) ht (Me he) hv hx;exact .iw h r
 .rename_i x y;simp only[iP] at hv;obtain⟨t,ht,u,⟨tx,htx,hu⟩,hv⟩:=hv;obtain⟨c,d,rfl,hx,hy⟩:=ahG hr;have he:Builtin.append_ tys ty #[c,d]=Builtin.append_ #[t,tx] ty #[c,d]:=by simp[Builtin.append_,ht,htx]
  show vv E B0 _ Y K w (do pure (.value (<-Builtin.append_ tys ty #[c,d]))) v Y';rw[he];split at hv
  .rename_i k;exact .tY (WS h hB hst hx hy (fun _=>⟨k,hu⟩) (fun hf=>by cases hf) hv)
  .rename_i e;exact .tY (WS h hB hst hx hy (fun hf=>by cases hf) (fun _=>.inl ⟨e,hu⟩) hv)
  .exact .tY (WS h hB hst hx hy (fun hf=>by cases hf) (fun _=>.inr hu) hv)
  .simp at hv
 .rename_i x y;simp only[iP] at hv;obtain⟨t,ht,hv⟩:=hv;obtain⟨c,d,rfl,hx,hy⟩:=ahG hr;have he:Builtin.copy_ tys ty #[c,d]=Builtin.copy_ #[t,t] ty #[c,d]:=by simp[Builtin.copy_,ht]
  show vv E B0 _ Y K w (do pure (.value (<-Builtin.copy_ tys ty #[c,d]))) v Y';rw[he];exact .tY (aq1 h hB hx hy hv)
 .rename_i x;simp only[iP] at hv;obtain⟨t,ht,hv⟩:=hv;obtain⟨c,rfl,hx⟩:=WV hr;have he:Builtin.clear_ tys ty #[c]=Builtin.clear_ #[t] ty #[c]:=by simp[Builtin.clear_,ht]
  show vv E B0 _ Y K w (do pure (.value (<-Builtin.clear_ tys ty #[c]))) v Y';rw[he];exact .tY (aq2 h hB hx hv)
 .rename_i x l;simp only[aZ,mF] at hv;obtain⟨v',hv',rfl,rfl⟩:=hv;obtain⟨c,cs,hc,hx,hl,hrel⟩:=ahH hr;obtain⟨c',r1,r2⟩:=ahA l cs x v' c hl hrel hx hv';have he:Builtin.min_ tys ty dQ=cs.foldlM Builtin.min2 c:=by unfold Builtin.min_;rw[hc]
  exact .iw (s:=Builtin.min_ tys ty dQ) h ⟨c',by rw[he];exact r1,r2⟩
 .rename_i x l;simp only[aZ,mF] at hv;obtain⟨v',hv',rfl,rfl⟩:=hv;obtain⟨c,cs,hc,hx,hl,hrel⟩:=ahH hr;obtain⟨c',r1,r2⟩:=ahB l cs x v' c hl hrel hx hv';have he:Builtin.max_ tys ty dQ=cs.foldlM Builtin.max2 c:=by unfold Builtin.max_;rw[hc]
  exact .iw (s:=Builtin.max_ tys ty dQ) h ⟨c',by rw[he];exact r1,r2⟩
 .simp at hv
end
def oU (ro:Option Nat):Fence:={Fence.wide with round:=ro}
structure H8 where
 l:List Deferred
 B:Nat
 nm:Bool
def mark (b:Nat):Deferred:=⟨.collected b, #[]⟩
structure St (E:Env)(B0:Nat)(Y:ah)(K:bB)(w:World)(fr:Fr)(a:Act)(n:Nat)(ds:H8):Prop where
 ok:bH E B0 Y K w
 hB:B0<=w.heap.size
 fr:mR K Y.top w fr a.tmps
 sz:a.tmps.size=n
 df:∃bs:List Nat,a.defers=bs.map mark++ds.l/\bs.Nodup/\(∀b∈bs,K.D b/\ds.B<=b)/\(ds.nm=true->bs=[])
 st:∀s,K.A s->s<Y.next
 hD:ds.B<=w.heap.size
def nQ:Ex->Exit->Prop
 |.normal,.normal=>True|.exit i,.exit j=>i=j|.ret,.ret=>True|_,_=>False
def newer (Y Y':ah)(s:Nat):Prop:=Y.next<=s/\s<Y'.next
def EY (E:Env)(B0 n:Nat)(ds:H8)(Y:ah)(K:bB)(w:World)(e:Ex)(fr':Fr)(Y':ah):Exit->Act->World->Prop:=
 fun x a' w'=>nQ e x/\∃K',St E B0 Y' K' w' fr' a' n ds/\Step E B0 (newer Y Y') Y K w Y' K' w'
def H9 (E:Env)(code:Code->Fr->ah->Option (Ex×Fr×ah)):Prop:=
 ∀c fr Y e fr' Y',code c fr Y=some (e,fr',Y')->Y.next<=Y'.next/\∀ro B0 K w a n ds,St E B0 Y K w fr a n ds->iI n c=true->(ro=none/\ds.nm=false\/kr c=true)->c.wpIn (oU ro) 0 E.P (EY E B0 n ds Y K w e fr' Y') a w
def wS (E:Env)(B0:Nat)(Y:ah)(K:bB)(w:World)(v:V)(Y':ah):Ending->World->Prop
 |.returned c,w'=>∃K',Rel K' Y'.top w' v c/\bH E B0 Y' K' w'/\(∀s,K'.A s->s<Y'.next)/\Step E B0 (newer Y Y') Y K w Y' K' w'|_,_=>False
def Cw (E:Env)(f:FuncId):Prop:=∃fn c,E.P.funcs[f]? =some fn/\fn.body=some c
def EZ (E:Env)(call:FuncId->List V->Nat->ah->Option (V×ah)):Prop:=
 ∀f args d Y v Y',call f args d Y=some (v,Y')->Y.next<=Y'.next/\Cw E f/\∀ro B0 K w dQ,bH E B0 Y K w->B0<=w.heap.size->(∀s,K.A s->s<Y.next)->RelA K Y.top w args dQ->
  CallsIn (oU ro) 0 E.P f dQ w (wS E B0 Y K w v Y')
structure Sound (E:Env)(S:iV):Prop where
 code:H9 E S.code
 call:EZ E S.call
theorem Step.widen {E:Env}{B0:Nat}{Y aB dn:ah}{K K1 K2:bB}{w w1 w2:World}(h:Step E B0 (newer Y aB) Y K w aB K1 w1)(g:Step E B0 (newer aB dn) aB K1 w1 dn K2 w2)(h1:Y.next<=aB.next)(h2:aB.next<=dn.next):Step E B0 (newer Y dn) Y K w dn K2 w2:=
 (h.mono (fun _ hs=>⟨hs.1,nC hs.2 h2⟩)).trans (g.mono (fun _ hs=>⟨eX h1 hs.1,hs.2⟩))
end aR
end
section
open Go
namespace aR
section
variable {F:Fence}{n:Nat}{P:Program}{Q:Exit->Act->World->Prop}{b:Frame}{k:List Item}{cs:List Frame}{a:Act}{w:World}
theorem Ia {c:Code}:step P (lone (b.atR a (.code (.scope c)::k)) cs w)= .next (lone (b.atR a (.code c:: .inScope c::k)) cs w):=
 step_lone_go (by simp[stepG,stepG.exec,Frame.atR])
theorem arb {c:Code}:step P (lone (b.atR a (.inScope c::k)) cs w)= .next (lone (b.atR a k) cs w):=
 step_lone_go (by simp[stepG,stepG.exec,Frame.atR])
theorem ard {c:Code}(h:c.wpIn F n P (Exit.noGoto Q) a w):(Code.scope c).wpIn F n P Q a w:=by
 intro b k cs hro hb hr;have h0:(lone (b.atR a (.code (.scope c)::k)) cs w).fenced P F:=fenced_calm hb hr rfl;obtain⟨e,a₁,w₁,hq,harr⟩:=h b (.inScope c::k) cs hro hb hr;cases e with
 |normal=>exact⟨.normal,a₁,w₁,hq,.head h0 Ia (StepsIn.trans harr (.one (fenced_calm hb hr rfl) arb))⟩|exit id'=>
  have hx:exitTo id' (.inScope c::k)=exitTo id' k:=by simp[exitTo]
  exact⟨.exit id',a₁,w₁,hq,fun k' hk=>.head h0 Ia (harr.1 k' (by rw[hx];exact hk)),
   fun hr' hk=>let ⟨k₁,h1,h2⟩:=harr.2 hr' (by rw[hx];exact hk);⟨k₁,h1,.head h0 Ia h2⟩⟩
 |goto l=>exact hq.elim|ret=>exact⟨_,a₁,w₁,hq,.of_steps (.one h0 Ia) harr⟩|panic ch=>exact⟨_,a₁,w₁,hq,.of_steps (.one h0 Ia) harr⟩|outgrown=>exact⟨_,a₁,w₁,hq,.of_steps (.one h0 Ia) harr⟩
end
end aR
end
section
namespace aR
open Go Go.RowKit
section
variable {E:Env}{B0:Nat}{Y:ah}{K:bB}{w:World}{fr:Fr}{a:Act}{n:Nat}{ds:H8}
def qm (E:Env)(c:Code)(fr:Fr)(Y:ah)(e:Ex)(fr':Fr)(Y':ah):Prop:=
 Y.next<=Y'.next/\∀ro B0 K w a n ds,St E B0 Y K w fr a n ds->iI n c=true->(ro=none/\ds.nm=false\/kr c=true)->c.wpIn (oU ro) 0 E.P (EY E B0 n ds Y K w e fr' Y') a w
theorem arf:qm E .skip fr Y .normal fr Y:=
 ⟨iR _,fun _ _ K _ _ _ _ h _ _=>wpIn_skip ⟨trivial,K,h,.refl h.ok⟩⟩
theorem arh (id:Nat):qm E (.exit id) fr Y (.exit id) fr Y:=
 ⟨iR _,fun _ _ K _ _ _ _ h _ _=>wpIn_exit ⟨rfl,K,h,.refl h.ok⟩⟩
theorem ari:qm E .ret fr Y .ret fr Y:=
 ⟨iR _,fun _ _ K _ _ _ _ h _ _=>wpIn_ret ⟨trivial,K,h,.refl h.ok⟩⟩
theorem arj (l:Nat):qm E (.label l) fr Y .normal fr Y:=
 ⟨iR _,fun _ _ K _ _ _ _ h _ _=>wpIn_label ⟨trivial,K,h,.refl h.ok⟩⟩
theorem ark {c:Code}{e:Ex}{bK:Fr}{aB:ah}(h:qm E c fr Y e bK aB):qm E (.scope c) fr Y e bK aB:=by
 refine⟨h.1,fun ro B0 K w a n ds hs hok hnr=>ard (wpIn_mono (h.2 ro B0 K w a n ds hs hok hnr) ?_)⟩;rintro x a1 w1 ⟨hx,hr⟩;cases x with
 |goto l=>cases e<;>simp only[nQ] at hx|_=>exact⟨hx,hr⟩
theorem EY.widen {aB dn:ah}{K1:bB}{w1:World}{e:Ex}{fr':Fr}(h:Step E B0 (newer Y aB) Y K w aB K1 w1)(h1:Y.next<=aB.next)(h2:aB.next<=dn.next):
 ∀x a' w',EY E B0 n ds aB K1 w1 e fr' dn x a' w'->EY E B0 n ds Y K w e fr' dn x a' w':=by
 rintro x a' w' ⟨g1,K2,g2,g3⟩;exact⟨g1,K2,g2,h.widen g3 h1 h2⟩
theorem arl {c d:Code}{e:Ex}{bK jf:Fr}{aB dn:ah}(h:qm E c fr Y .normal bK aB)(g:qm E d bK aB e jf dn):qm E (.seq c d) fr Y e jf dn:=by refine⟨eX h.1 g.1,fun ro B0 K w a n ds hs hok hnr=>?_⟩;simp only[iI,bf] at hok;simp only[kr,bf] at hnr;refine wpIn_seq (wpIn_mono (h.2 ro B0 K w a n ds hs hok.1 (hnr.imp id And.left)) ?_);rintro x a1 w1 ⟨hx,K1,s1,st1⟩;cases x<;>simp only[nQ] at hx;exact wpIn_mono (g.2 ro B0 K1 w1 a1 n ds s1 hok.2 (hnr.imp id And.right)) (EY.widen st1 h.1 g.1)
theorem ahI {c d:Code}{e:Ex}{bK:Fr}{aB:ah}(he:e≠ .normal)(h:qm E c fr Y e bK aB):qm E (.seq c d) fr Y e bK aB:=by
 refine⟨h.1,fun ro B0 K w a n ds hs hok hnr=>?_⟩;simp only[iI,bf] at hok;simp only[kr,bf] at hnr;refine wpIn_seq (wpIn_mono (h.2 ro B0 K w a n ds hs hok.1 (hnr.imp id And.left)) ?_);rintro x a1 w1 ⟨hx,K1,s1,st1⟩;cases e<;>cases x<;>simp only[nQ] at hx
 .exact absurd rfl he
 .exact⟨hx,K1,s1,st1⟩
 .exact⟨hx,K1,s1,st1⟩
theorem arn {c:Operand}{x y:Code}{t:Bool}{e:Ex}{bK:Fr}{aB:ah}(hc:yg (fr.ev E c)=some t)(h:qm E (if t then x else y) fr Y e bK aB):qm E (.cond c x y) fr Y e bK aB:=by
 refine⟨h.1,fun ro B0 K w a n ds hs hok hnr=>?_⟩;simp only[iI,bf] at hok;simp only[kr,bf] at hnr;refine wpIn_cond (ahC (AQ hs.ok hs.fr c) hc) (h.2 ro B0 K w a n ds hs ?_ ?_)
 .cases t
  .exact hok.2
  .exact hok.1
 .cases t
  .exact hnr.imp id And.right
  .exact hnr.imp id And.left
def WW (id:Nat):Ex->Ex
 |.exit i=>if i=id then .normal else .exit i|e=>e
theorem aro {id:Nat}{c:Code}{e:Ex}{bK:Fr}{aB:ah}(h:qm E c fr Y e bK aB):qm E (.block id c) fr Y (WW id e) bK aB:=by
 refine⟨h.1,fun ro B0 K w a n ds hs hok hnr=>wpIn_block (wpIn_mono (h.2 ro B0 K w a n ds hs hok hnr) ?_)⟩;rintro x a1 w1 ⟨hx,K1,s1,st1⟩;cases e with
 |normal=>cases x<;>simp only[nQ] at hx;exact⟨trivial,K1,s1,st1⟩|ret=>cases x<;>simp only[nQ] at hx;exact⟨trivial,K1,s1,st1⟩|exit i=>
  cases x<;>simp only[nQ] at hx;subst hx;simp only[Exit.inBlock,WW];split
  .exact⟨trivial,K1,s1,st1⟩
  .exact⟨rfl,K1,s1,st1⟩
end
section
variable {E:Env}{B0:Nat}{Y Y':ah}{K K':bB}{w w':World}{fr:Fr}{a:Act}{n:Nat}{ds:H8}
theorem mR.put {T:Nat->Nat}(h:mR K T w fr a.tmps){d:Option Nat}{v:V}{c:Value}(hr:Rel K T w v c)(hd:∀i,d=some i->i<a.tmps.size):mR K T w (fr.put d v) (a.put d c).tmps:=by
 cases d with
 |none=>exact h|some i=>
  have hi:=hd i rfl;intro t;show Rel K T w (upd fr.tm i v t) ((a.tmps.setIfInBounds i c).getD t undef);by_cases ht:t=i
  .subst ht;rw[upd_same];have:(a.tmps.setIfInBounds t c).getD t undef=c:=by simp[Array.getD,hi]
   rw[this];exact hr
  .rw[upd_ne _ _ ht];have:(a.tmps.setIfInBounds i c).getD t undef=a.tmps.getD t undef:=by
    simp only[Array.getD,Array.size_setIfInBounds];split
    .rename_i hlt;show (a.tmps.setIfInBounds i c)[t]'(by simpa using hlt)=a.tmps[t];rw[Array.getElem_setIfInBounds_ne hlt (Ne.symm ht)]
    .rfl
   rw[this];exact h t
theorem arp (a:Act)(d:Option Nat)(c:Value):(a.put d c).tmps.size=a.tmps.size:=by cases d<;>simp[Act.put]
theorem put_defers (a:Act)(d:Option Nat)(c:Value):(a.put d c).defers=a.defers:=Cc
theorem St.put (h:St E B0 Y K w fr a n ds){new:Nat->Prop}{d:Option Nat}{v:V}{c:Value}(hs:Step E B0 new Y K w Y' K' w')(hr:Rel K' Y'.top w' v c)(hd:∀i,d=some i->i<n)(hst:∀s,K'.A s->s<Y'.next):
 St E B0 Y' K' w' (fr.put d v) (a.put d c) n ds:=
 ⟨hs.ok,eX h.hB hs.below.size,mR.put (h.fr.ext hs.ext) hr (fun i hi=>by rw[h.sz];exact hd i hi),by rw[arp];exact h.sz,by obtain⟨bs,h1,h2,h3,h4⟩:=h.df;exact⟨bs,by rw[put_defers];exact h1,h2,fun b hb=>⟨hs.D b (h3 b hb).1,(h3 b hb).2⟩,h4⟩,hst,eX h.hD hs.below.size⟩
theorem Ro {o:Oper}(ro:Option Nat)(Z:Operand->Value)(h:∀c,o.op≠ .defer c):o.semAt ro Z=execOp Z o:=by
 unfold Oper.semAt;split
 .rename_i c hc;exact absurd hc (h c)
 .rfl
theorem arq {o:Oper}{ro:Option Nat}{new:Nat->Prop}{v:V}{next:Act->World->Prop}{Q:Exit->Act->World->Prop}(ho:∀c,o.op≠ .defer c)(hd:vv E B0 new Y K w (execOp a.eval o) v Y')(hn:∀c w' K',Rel K' Y'.top w' v c->Step E B0 new Y K w Y' K' w'->next (a.put o.dst c) w'):o.wpIn (oU ro) 0 E.P a w next Q:=by
 refine⟨fun f _=>trivial,?_⟩;obtain⟨nx,c,w',K',h1,h2,h3,h4⟩:=hd;rw[Ro _ _ ho,h1];rcases h2 with rfl| ⟨rfl,rfl⟩
 .exact hn c w' K' h3 h4
 .exact hn undef w' K' h3 h4
end
def tZ (Y Y':ah):Prop:=Y'.next=Y.next/\Y'.loops=Y.loops
theorem tZ.refl (Y:ah):tZ Y Y:=⟨rfl,rfl⟩
section
variable {E:Env}{Y Y':ah}{fr:Fr}
theorem ars {t:TypeId}{m k v:V}(h:AL E.P Y t m k v=some Y'):tZ Y Y':=by unfold AL at h;cases h
theorem aru {aj:Bool}{st:Nat}{loc:Option Loc}{t:TypeId}{l c v:V}(h:AO E.P aj Y st loc t l c=some (v,Y')):tZ Y Y':=by unfold AO at h;cases h
theorem arv {t:TypeId}{x y v:V}(h:copyV E.P Y t x y=some (v,Y')):tZ Y Y':=by
 simp only[copyV,iP] at h;obtain⟨_,_,_,_,_,_,h⟩:=h;split at h
 .simp only[iP] at h;obtain⟨_,_,h⟩:=h;split at h
  .split at h
   .simp only[iP] at h;obtain⟨_,_,h⟩:=h;split at h
    .simp only[iE,mF] at h;obtain⟨_,rfl⟩:=h;exact⟨rfl,rfl⟩
    .simp at h
   .simp only[iE,mF] at h;obtain⟨_,rfl⟩:=h;exact⟨rfl,rfl⟩
   .simp at h
  .simp at h
 .simp at h
theorem WX {aj zeros:Bool}{st:Nat}{loc:Option Loc}{t:TypeId}{x y v:V}(h:kI E.P aj zeros Y st loc t x y=some (v,Y')):tZ Y Y':=by
 simp only[kI,iP] at h;obtain⟨_,_,_,_,_,_,_,_,_,_,h⟩:=h;split at h
 .simp only[iP] at h;obtain⟨_,_,h⟩:=h;split at h
  .split at h
   .split at h
    .split at h;all_goals first
      | (simp only[aZ,mF] at h;obtain⟨_,_,_,rfl⟩:=h;exact⟨rfl,rfl⟩)
      | (simp only[iE,mF] at h;obtain⟨_,rfl⟩:=h;exact⟨rfl,rfl⟩)
      | (split at h
         .simp at h
         .simp only[aZ,mF] at h;obtain⟨_,_,_,rfl⟩:=h;exact⟨rfl,rfl⟩)
      | (split at h
         .simp only[iE,mF] at h;obtain⟨_,rfl⟩:=h;exact⟨rfl,rfl⟩
         .simp only[aZ,mF] at h;obtain⟨_,_,_,rfl⟩:=h;exact⟨rfl,rfl⟩)
      | (split at h
         .simp only[iE,mF] at h;obtain⟨_,rfl⟩:=h;exact⟨rfl,rfl⟩
         .simp at h)
      |simp at h
    .simp at h
   .split at h
    .simp only[iP] at h;obtain⟨_,_,_,_,h⟩:=h;split at h
     .split at h
      .simp only[iE,mF] at h;obtain⟨_,rfl⟩:=h;exact⟨rfl,rfl⟩
      .simp at h
     .split at h
      .simp only[iE,mF] at h;obtain⟨_,rfl⟩:=h;exact⟨rfl,rfl⟩
      .simp at h
    .simp at h
   .simp at h
  .simp at h
 .simp at h
theorem arw {t:TypeId}{x v:V}(h:Hl E.P Y t x=some (v,Y')):tZ Y Y':=by unfold Hl at h;cases h
theorem ahJ {aj:Bool}{st:Nat}{loc:Option Loc}{b:Builtin}{tys:Array TypeId}{args:List V}{v:V}(h:qI E aj loc Y st b tys args=some (v,Y')):tZ Y Y':=by
 unfold qI at h;split at h
 .simp only[iP,aZ,mF] at h;obtain⟨_,_,_,_,_,rfl⟩:=h;exact .refl _
 .simp only[iP] at h;obtain⟨_,_,_,_,h⟩:=h;split at h
  .simp only[iE,mF] at h;obtain⟨_,rfl⟩:=h;exact .refl _
  .simp only[iE,mF] at h;obtain⟨_,rfl⟩:=h;exact .refl _
  .simp at h
 .simp only[iP] at h;obtain⟨_,_,_,_,h⟩:=h;split at h
  .exact WX h
  .exact WX h
  .exact WX h
  .simp at h
 .simp only[iP] at h;obtain⟨_,_,h⟩:=h;exact arv h
 .simp only[iP] at h;obtain⟨_,_,h⟩:=h;exact arw h
 .simp only[aZ,mF] at h;obtain⟨_,_,_,rfl⟩:=h;exact .refl _
 .simp only[aZ,mF] at h;obtain⟨_,_,_,rfl⟩:=h;exact .refl _
 .simp at h
theorem arx {x v:V}(h:yj Y x=some (v,Y')):tZ Y Y':=by
 unfold yj at h;split at h
 .simp only[iP] at h;obtain⟨_,_,h⟩:=h;split at h
  .simp only[iE,mF] at h;obtain⟨_,rfl⟩:=h;exact⟨rfl,rfl⟩
  .simp at h
 .simp only[iE,mF] at h;obtain⟨_,rfl⟩:=h;exact .refl _
 .simp only[iE,mF] at h;obtain⟨_,rfl⟩:=h;exact .refl _
theorem arz {st:Nat}{loc:Option Loc}{t:TypeId}{len:Nat}{ps:List (Nat×V)}{v:V}(h:Co E Y st loc t len ps=some (v,Y')):tZ Y Y':=by
 simp only[Co,iP] at h;obtain⟨_,_,_,_,_,_,_,_,h⟩:=h;split at h
 .simp only[iP,aZ,mF] at h;obtain⟨_,_,_,_,_,rfl⟩:=h;exact⟨rfl,rfl⟩
 .simp at h
theorem ahK {st:Nat}{o:Oper}{v:V}(h:dM E fr Y st o=some (v,Y')):tZ Y Y':=by
 unfold dM at h;split at h;all_goals first
  |exact aru h
  | (split at h<;>first
      |exact arx h
      |exact arz h
      | (simp only[aZ,mF] at h;obtain⟨_,_,_,rfl⟩:=h;exact⟨rfl,rfl⟩)
      | (simp only[iE,mF] at h;obtain⟨_,rfl⟩:=h;exact .refl _))
  | (simp only[iE,mF] at h;obtain⟨_,rfl⟩:=h;exact .refl _)
  | (simp only[aZ,mF] at h;obtain⟨_,_,_,rfl⟩:=h;exact⟨rfl,rfl⟩)
  | (simp only[aZ,mF] at h;obtain⟨_,h1,_,rfl⟩:=h;exact ars h1)
  | (simp only[iP,aZ,mF] at h;obtain⟨_,_,_,_,_,_,_,rfl⟩:=h;exact⟨rfl,rfl⟩)
  |simp at h
  | (simp only[iP] at h
     obtain⟨_,_,h⟩:=h;split at h
     .simp only[iE,mF] at h;obtain⟨_,rfl⟩:=h;exact⟨rfl,rfl⟩
     .simp at h)
  |skip
 all_goals
  repeat' first
   |exact⟨rfl,rfl⟩
   | (obtain⟨_,_,h⟩:=h)
   | (simp only[iP] at h)
   |split at h
   | (simp only[iE,mF] at h;obtain⟨_,rfl⟩:=h;exact⟨rfl,rfl⟩)
   | (simp only[aZ,mF] at h;obtain⟨_,_,_,rfl⟩:=h;exact⟨rfl,rfl⟩)
   | (simp at h;done)
end
def bB.lend (I:Nat->Nat->Prop)(IM:Nat->Prop):bB:=
 {A:=fun _=>False,blk:=fun _=>0,sz:=fun _=>0,ob:=fun _=>0,lo:=fun _=>0,hi:=fun _=>0,lp:=fun _=>0,I:=I,IM:=IM,D:=fun _=>False,Z:=fun _=>none}
def grow (I:Nat->Nat->Prop)(B:Nat)(w:World)(b o:Nat):Prop:=(I b o\/B<=b)/\∃v,w.cell? (at_ b o)=some v
def yx (IM:Nat->Prop)(B:Nat)(w:World)(b:Nat):Prop:=(IM b\/B<=b)/\∃es fB,w.heap[b]? =some (.map es fB)
theorem vw:∀{l:List V},cu l=true->∀i,i<l.length->aQ (l.getD i aP)=true
 |v::l,h,0,_=>by simp only[cu,bf] at h;exact h.1|v::l,h,i+1,hi=>by simp only[cu,bf] at h;exact vw h.2 i kg
theorem WY:∀{l:List V},lQ l=true->∀i,i<l.length->flat (l.getD i aP)=true
 |v::l,h,0,_=>by simp only[lQ,bf] at h;exact h.1|v::l,h,i+1,hi=>by simp only[lQ,bf] at h;exact WY h.2 i kg
theorem WZ {v:V}(h:aQ v=true){j:Nat}(hj:j<v.cells.length):aQ (v.cells.getD j aP)=true:=by
 cases v with
 |agg cs=>exact vw (l:=cs) (by simpa [aQ] using h) j hj|_=>
  have:j=0:=by simpa [V.cells] using hj
  subst this;exact h
section
variable {K K':bB}{T T':Nat->Nat}{w w':World}
theorem Rel.pure {v:V}{c:Value}(h:Rel K T w v c)(hp:aQ v=true)(hI:∀b o,K.I b o->K'.I b o/\w'.cell? (at_ b o)=w.cell? (at_ b o))(hM:∀b,K.IM b->K'.IM b/\w'.heap[b]? =w.heap[b]?):Rel K' T' w' v c:=by
 induction h with
 |int k n=>exact .int k n|bool b=>exact .bool b|str s b h=>exact .str s b h|gY=>exact .gY|gL=>exact .gL|iq=>exact .iq|iN=>exact .iN|agg cs vs hl _ ih=>exact .agg cs vs hl (fun i hi=>ih i hi (vw BZ i hi))
 |bW cs vs hl _ ih=>exact .bW cs vs hl (fun i hi=>ih i hi (vw BZ i hi))
 |fZ c a ha hc=>
  cases c<;>simp only[aQ,dI] at hp;exact .fZ .sh a (fun h=>dh) trivial
 |ak c l b o n cap val hle hn hcell _ hc ih=>
  cases c<;>simp only[aQ,dI] at hp;refine .ak .sh l b o n cap val hle hn (fun i j hi hj=>?_) (fun i j hi hj=>ih i j hi hj (WZ (vw hp i hi) (by rw[hn i hi];exact hj))) trivial;obtain⟨h1,h2⟩:=hcell i j hi hj;obtain⟨g1,g2⟩:=hI _ _ h2;exact⟨g2.trans h1,g1⟩
 |aS loc s off len cap bE ag fD hA hc hle hsz=>simp[aQ] at hp|oG loc s bE ag hA=>simp[aQ] at hp|aY cs off b o val hcell _ ih=>refine .aY cs off b o val (fun j hj=>?_) (fun j hj=>ih j hj (vw BZ j hj));obtain⟨h1,h2⟩:=hcell j hj;obtain⟨g1,g2⟩:=hI _ _ h2;exact⟨g2.trans h1,g1⟩
 |ref loc s off hA=>simp[aQ] at hp|fn f a b kS bv ha hb _ _ iha ihb=>simp only[aQ,bf] at hp;exact .fn f a b kS bv ha hb (fun i hi=>iha i hi (vw hp.1 i hi)) (fun i hi=>ihb i hi (vw hp.2 i hi))
 |yield l hA=>simp[aQ] at hp|fu loc s hA=>simp[aQ] at hp|fH ks vs b es fB hM' hb hk hv _ _ ihk L8=>simp only[aQ,bf] at hp;obtain⟨g1,g2⟩:=hM b hM';exact .fH ks vs b es fB g1 (g2.trans hb) hk hv (fun i hi=>ihk i hi (vw hp.1 i RS)) (fun i hi=>L8 i hi (vw hp.2 i RS))
 |iface t v c _ ih=>exact .iface t v c (ih BZ)|raw v=>simp[aQ] at hp
theorem Rel.flat {v:V}{c:Value}(h:Rel K T w v c)(hp:flat v=true):Rel K' T' w' v c:=by
 induction h with
 |int k n=>exact .int k n|bool b=>exact .bool b|str s b h=>exact .str s b h|gY=>exact .gY|gL=>exact .gL|iq=>exact .iq|iN=>exact .iN|agg cs vs hl _ ih=>exact .agg cs vs hl (fun i hi=>ih i hi (WY (by simpa [aR.flat] using hp) i hi))
 |bW cs vs hl _ ih=>exact .bW cs vs hl (fun i hi=>ih i hi (WY (by simpa [aR.flat] using hp) i hi))
 |_=>simp[aR.flat] at hp
theorem arA {cs:List V}{vs:Array Value}(h:Rel K T w (.agg cs) (.agg vs)):cs.length=vs.size/\∀i,i<cs.length->Rel K T w (cs.getD i aP) (vs.getD i undef):=by
 cases h with
 |agg _ _ hl h=>exact⟨hl,h⟩
theorem arB {n:Nat}{Y:ah}{cs:List V}{v:V}(h:bA n Y (.agg cs)=some v):∃cs',v= .agg cs':=by
 cases n with
 |zero=>simp[bA] at h|succ n=>
  unfold bA at h;split at h
  .simp only[iE] at h;exact⟨cs,h.symm⟩
  .simp only[aZ] at h;obtain⟨cs',_,rfl⟩:=h;exact⟨cs',rfl⟩
theorem arC {n:Nat}{Y:ah}{x v:V}(hx:∀cs,x≠ .agg cs)(h:bA n Y x=some v):v.cells=[v]/\x.cells=[x]:=by
 have h2:x.cells=[x]:=by cases x<;>first|rfl|exact absurd rfl (hx _)
 refine⟨?_,h2⟩;cases n with
 |zero=>simp[bA] at h|succ n=>
  unfold bA at h;split at h
  .simp only[iE] at h;subst h;exact h2
  .split at h;all_goals try (simp only[reduceCtorEq] at h;done)
   all_goals try (simp only[aZ] at h;obtain⟨_,_,rfl⟩:=h;first|rfl|exact absurd rfl (hx _))
   all_goals try (simp only[iP,aZ] at h;obtain⟨_,_,_,_,rfl⟩:=h;rfl)
   .simp only[iP] at h;obtain⟨_,_,h⟩:=h;split at h
    .simp only[iP] at h;obtain⟨_,_,h⟩:=h;split at h
     .simp only[iE] at h;subst h;rfl
     .simp at h
    .simp at h
   .simp only[iP] at h;obtain⟨⟨ks,vs⟩,_,h⟩:=h;simp only[iP,aZ] at h;obtain⟨_,_,_,_,rfl⟩:=h;rfl
theorem W9 {E:Env}{B0:Nat}{Y:ah}(h:bH E B0 Y K w):∀(n:Nat)(v v':V)(c:Value),Rel K Y.top w v c->bA n Y v=some v'->
 Rel (bB.lend (grow K.I B0 w) (yx K.IM B0 w)) T' w v' c:=by
 have AU:∀b o,K.I b o->grow K.I B0 w b o/\w.cell? (at_ b o)=w.cell? (at_ b o):=fun b o hi=>⟨⟨.inl hi,(h.I b o hi).1⟩,rfl⟩;have Cx:∀b,K.IM b->yx K.IM B0 w b/\w.heap[b]? =w.heap[b]? :=fun b hi=>⟨⟨.inl hi,(h.IM b hi).1⟩,rfl⟩;intro n;induction n with
 |zero=>intro v v' c _ hc;simp[bA] at hc|succ n ih=>
  intro v v' c hr hc;have hlist:∀(l l':List V)(val:Nat->Value),l.mapM (bA n Y)=some l'->(∀i,i<l.length->Rel K Y.top w (l.getD i aP) (val i))->
   l'.length=l.length/\∀i,i<l'.length->Rel (bB.lend (grow K.I B0 w) (yx K.IM B0 w)) T' w (l'.getD i aP) (val i):=by
   intro l l' val hm hv;obtain⟨h1,h2⟩:=mapM_some hm;refine⟨h1.symm,fun i hi=>?_⟩;obtain⟨h3,h4⟩:=h2 i RS;have:=hv i RS;rw[kK (show i<l.length by omega)] at this;rw[kK h3];exact ih _ _ _ this h4
  have hcells:∀(x x':V)(m:Nat)(val:Nat->Value),bA n Y x=some x'->x.cells.length=m->(∀j,j<m->Rel K Y.top w (x.cells.getD j aP) (val j))->
   x'.cells.length=m/\∀j,j<m->Rel (bB.lend (grow K.I B0 w) (yx K.IM B0 w)) T' w (x'.cells.getD j aP) (val j):=by
   intro x x' m val hx hm hv;by_cases hag:∃cs,x= .agg cs
   .obtain⟨cs,rfl⟩:=hag;obtain⟨cs',rfl⟩:=arB hx;have hm':cs.length=m:=hm;have hcell:∀j,j<m->(Array.ofFn fun i:Fin m=>val i).getD j undef=val j:=fun j hj=>by simp[Array.getD,hj]
    have r:Rel K Y.top w (.agg cs) (.agg (Array.ofFn fun i:Fin m=>val i)):=.agg _ _ (by simpa using hm') (fun i hi=>by rw[hcell i RS];exact hv i RS);obtain⟨g1,g2⟩:=arA (ih _ _ _ r hx);have g1':cs'.length=m:=(by simpa using g1);exact⟨g1',fun j hj=>by have:=g2 j RS;rw[hcell j hj] at this;exact this⟩
   .obtain⟨h1,h2⟩:=arC (fun cs e=>hag ⟨cs,e⟩) hx;rw[h2] at hm hv;have hm1:m=1:=(by simpa using hm.symm);subst hm1;rw[h1];refine⟨rfl,fun j hj=>?_⟩;have hj0:j=0:=RS;subst hj0;exact ih _ _ _ (hv 0 RS) hx
  have Q9:∀loc s cs,Y.dS loc s=some cs->cs≠[]->∃vals t,w.heap[K.blk s]? =some (.cells vals t (0,0))/\vals.size=K.sz s/\cs.length<=vals.size/\B0<=K.blk s/\
   (∀i,i<cs.length->Rel K Y.top w (cs.getD i aP) (vals.getD i undef))/\∀i,i<vals.size->w.cell? (at_ (K.blk s) i)=some (vals.getD i undef):=by
   intro loc s cs hcs hne;obtain⟨g1,_,_⟩:=h.wP hcs;obtain⟨a1,a2,a3⟩:=h.obj _ _ _ g1;obtain⟨b1,vals,t,b2,b3,b4,b5⟩:=a2.2 hne;refine⟨vals,t,b2,b3,b4,b1,b5,fun i hi=>?_⟩;simp[World.cell?,b2,Array.getD,hi]
  unfold bA at hc;split at hc
  .rename_i hp;simp only[iE] at hc;subst hc;exact hr.pure hp AU Cx
  .cases hr with
   |fZ c a ha hcn=>simp only[List.mapM_nil,Option.pure_def,Option.map_some,iE] at hc;subst hc;exact .fZ .sh a (fun h=>dh) trivial
   |ak c l b o m cap val hle hn hcell hrel hcap=>
    simp only[aZ] at hc;obtain⟨l',hm,rfl⟩:=hc;obtain⟨h1,h2⟩:=mapM_some hm;have hel:∀i,i<l'.length->(l'.getD i aP).cells.length=m/\∀j,j<m->Rel (bB.lend (grow K.I B0 w) (yx K.IM B0 w)) T' w ((l'.getD i aP).cells.getD j aP) (val i j):=by
     intro i hi;obtain⟨h3,h4⟩:=h2 i RS;rw[kK h3];refine hcells _ _ m (val i) h4 ?_ (fun j hj=>?_)
     .have:=hn i RS;rwa[kK (show i<l.length by omega)] at this
     .have:=hrel i j RS hj;rwa[kK (show i<l.length by omega)] at this
    rw[h1];refine .ak .sh l' b o m cap val RS (fun i hi=>(hel i hi).1) (fun i j hi hj=>?_) (fun i j hi hj=>(hel i hi).2 j hj) trivial;obtain⟨e1,e2⟩:=hcell i j RS hj;exact⟨e1,(AU _ _ e2).1⟩
   |agg cs vs hl hrel=>simp only[aZ] at hc;obtain⟨l',hm,rfl⟩:=hc;obtain⟨h1,h2⟩:=hlist _ _ (fun i=>vs.getD i undef) hm hrel;exact .agg _ _ RS h2
   |bW cs vs hl hrel=>simp only[aZ] at hc;obtain⟨l',hm,rfl⟩:=hc;obtain⟨h1,h2⟩:=hlist _ _ (fun i=>vs.getD i undef) hm hrel;exact .bW _ _ RS h2
   |aY cs off b o val hcell hrel=>simp only[aZ] at hc;obtain⟨l',hm,rfl⟩:=hc;obtain⟨h1,h2⟩:=hlist _ _ val hm hrel;exact .aY l' off b o val (fun j hj=>⟨(hcell j RS).1,(AU _ _ (hcell j RS).2).1⟩) h2
   |fn f a b kS bv ha hb ra rb=>simp only[iP,aZ] at hc;obtain⟨a',hma,b',hmb,rfl⟩:=hc;obtain⟨h1,h2⟩:=hlist _ _ (fun i=>kS.getD i undef) hma ra;obtain⟨h3,h4⟩:=hlist _ _ (fun i=>bv.getD i undef) hmb rb;exact .fn f a' b' kS bv RS RS h2 h4
   |ref loc s off hA=>
    simp only[iP,aZ] at hc;obtain⟨cs,hcs,cs',hm,rfl⟩:=hc;have key:Rel (bB.lend (grow K.I B0 w) (yx K.IM B0 w)) T' w (.aY cs' off) (.pointer (some (at_ (K.blk s) (0+off)))):=by
     by_cases hne:cs=[]
     .subst hne;simp only[List.mapM_nil,Option.pure_def,iE] at hm;subst hm;exact .aY [] off _ 0 (fun _=>undef) (fun j hj=>absurd hj (gQ j)) (fun j hj=>absurd hj (gQ j))
     .obtain⟨vals,t,e1,e2,e3,e4,e5,e6⟩:=Q9 _ _ _ hcs hne;obtain⟨h1,h2⟩:=hlist _ _ (fun i=>vals.getD i undef) hm e5;refine .aY cs' off _ 0 (fun i=>vals.getD i undef) (fun j hj=>?_) h2;rw[oW];exact⟨e6 j RS,.inr e4,_,e6 j RS⟩
    rwa[oW] at key
   |oG loc s bE ag hA=>
    simp only[iP] at hc;obtain⟨cs,hcs,hc⟩:=hc;split at hc
    .simp only[iP] at hc;obtain⟨cs',hm,hc⟩:=hc;split at hc
     .simp only[iE] at hc;subst hc;exact .fZ .sh none (fun _=>rfl) trivial
     .simp at hc
    .simp at hc
   |aS loc s off len cap bE ag fD hA hcp hle hsz=>
    simp only[iP] at hc;obtain⟨cs,hcs,hc⟩:=hc;split at hc
    .rename_i hlen;simp only[iP] at hc;obtain⟨cs',hm,hc⟩:=hc;split at hc
     .rename_i hag;simp only[iE] at hc;subst hc;have Mq:ag=false->bE=1:=fun e=>by simp[e] at hag;exact hag.1
      have Mr:ag=false->dA cs'=true:=fun e=>by simp[e] at hag;exact hag.2
      have hl':((cs.drop off).take (len*bE)).length=len*bE:=dz;by_cases hne:cs=[]
      .subst hne;have h0:len*bE=0:=(by simp at hlen;omega);have hd:(([]:List V).drop off).take (len*bE)=[]:=aD;rw[hd] at hm;simp only[List.mapM_nil,Option.pure_def,iE] at hm;subst hm;exact Hz (w:=w) (val:=fun _=>undef) Mq (by rw[h0];exact oZ _) Mr (fun j hj=>RS) (fun j hj=>RS) RS trivial
      .obtain⟨vals,t,e1,e2,e3,e4,e5,e6⟩:=Q9 _ _ _ hcs hne;obtain⟨h1,h2⟩:=hlist _ _ (fun i=>vals.getD (off+i) undef) hm (fun i hi=>by rw[hl'] at hi;rw[rH _ hi,tT];exact e5 _ RS);rw[hl'] at h1;refine Hz (w:=w) (val:=fun i=>vals.getD (off+i) undef) Mq RS Mr (fun j hj=>⟨e6 _ RS,.inr e4,_,e6 _ RS⟩) (fun j hj=>h2 j RS) RS trivial
     .simp at hc
    .simp at hc
   |fu loc s hA=>
    simp only[iP] at hc;obtain⟨⟨ks,vs⟩,hmp,hc⟩:=hc;simp only[iP,aZ] at hc;obtain⟨ks',hk,vs',hv,rfl⟩:=hc;have nP:Y.obj loc=some (s,.map ks vs):=by
     unfold ah.lg at hmp;split at hmp
     .rename_i s' aGG vs0 ho;split at hmp
      .rename_i hs;simp only[iE,mF] at hmp;obtain⟨rfl,rfl⟩:=hmp;rw[ho,hs]
      .simp at hmp
     .simp at hmp
    obtain⟨_,⟨a1,es,fB,a2,a3,a4,a5,a6⟩,_⟩:=h.obj _ _ _ nP;obtain⟨h1,h2⟩:=hlist _ _ (fun i=>(es.getD i default).key) hk (fun i hi=>a5 i RS);obtain⟨h3,h4⟩:=hlist _ _ (fun i=>(es.getD i default).val) hv (fun i hi=>a6 i RS);exact .fH ks' vs' _ es fB ⟨.inr a1,es,fB,a2⟩ a2 RS RS (fun i hi=>h2 i RS) (fun i hi=>h4 i RS)
   |fH ks vs b es fB hM hb hk hv rk rv=>simp only[iP,aZ] at hc;obtain⟨ks',hk',vs',hv',rfl⟩:=hc;obtain⟨h1,h2⟩:=hlist _ _ (fun i=>(es.getD i default).key) hk' (fun i hi=>rk i RS);obtain⟨h3,h4⟩:=hlist _ _ (fun i=>(es.getD i default).val) hv' (fun i hi=>rv i RS);exact .fH ks' vs' b es fB (Cx b hM).1 hb RS RS (fun i hi=>h2 i RS) (fun i hi=>h4 i RS)
   |iface t x c hx=>simp only[aZ] at hc;obtain⟨x',hx',rfl⟩:=hc;exact .iface t x' c (ih _ _ _ hx hx')
   |_=>simp at hc
end
def Rp (E:Env)(I:Nat->Nat->Prop)(IM:Nat->Prop)(w:World):Prop:=
 (∀b o,I b o->∃v,w.cell? (at_ b o)=some v)/\(∀b,IM b->∃es fB,w.heap[b]? =some (.map es fB))/\
 ∀g cs,E.glob g=some cs->Rel (bB.lend I IM) (fun _=>0) w (.aY cs 0) (.pointer (some (at_ g 0)))
def ahL (I:Nat->Nat->Prop)(IM:Nat->Prop)(w:World)(v:V):Ending->World->Prop
 |.returned c,w'=>Below w.heap.size w w'/\Rel (bB.lend (grow I w.heap.size w') (yx IM w.heap.size w')) (fun _=>0) w' v c
 |_,_=>False
def rJ (E:Env)(f:FuncId)(args:List V)(v:V):Prop:=
 Cw E f/\∀I IM w dQ,Rp E I IM w->RelA (bB.lend I IM) (fun _=>0) w args dQ->CallsIn Fence.wide 0 E.P f dQ w (ahL I IM w v)
structure o7 (E:Env):Prop where
 name:∀(f:FuncId)(fn:Func),E.P.funcs[f]? =some fn->fn.name≠ "runtime.NumGoroutine"
 mO:∀f g,E.mO f=some g->∀args v,g args=some v->rJ E f args v
 mixed:E.P.follows .mixedOrders=true
 flat:∀g cs,E.glob g=some cs->cu cs=true
section
variable {E:Env}{S:iV}{K K':bB}{T T':Nat->Nat}{w w':World}{Y Y':ah}{B0:Nat}
theorem Rel.Ms {I:Nat->Nat->Prop}{IM:Nat->Prop}{v:V}{c:Value}(h:Rel (bB.lend I IM) T w v c)(hI:∀b o,I b o->K'.I b o/\w'.cell? (at_ b o)=w.cell? (at_ b o))(hM:∀b,IM b->K'.IM b/\w'.heap[b]? =w.heap[b]?):Rel K' T' w' v c:=by
 generalize hK:bB.lend I IM=K at h;induction h with
 |int k n=>exact .int k n|bool b=>exact .bool b|str s b h=>exact .str s b h|gY=>exact .gY|gL=>exact .gL|iq=>exact .iq|iN=>exact .iN|agg cs vs hl _ ih=>exact .agg cs vs hl (fun i hi=>ih i hi)
 |bW cs vs hl _ ih=>exact .bW cs vs hl (fun i hi=>ih i hi)
 |fZ c a ha hc=>
  cases c with
  |own n s=>subst hK;exact hc.1.elim|_=>exact .fZ _ a ha trivial
 |ak c l b o n cap val hle hn hcell _ hc ih=>
  refine .ak c l b o n cap val hle hn (fun i j hi hj=>?_) ih ?_
  .obtain⟨h1,h2⟩:=hcell i j hi hj;subst hK;obtain⟨g1,g2⟩:=hI _ _ h2;exact⟨g2.trans h1,g1⟩
  .cases c with
   |own n s=>subst hK;exact hc.2.1.elim|sh=>trivial|full=>exact hc|nil=>exact hc
 |aS loc s off len cap bE ag fD hA hc hle hsz=>subst hK;exact hA.elim|oG loc s bE ag hA=>subst hK;exact hA.elim|aY cs off b o val hcell _ ih=>refine .aY cs off b o val (fun j hj=>?_) ih;obtain⟨h1,h2⟩:=hcell j hj;subst hK;obtain⟨g1,g2⟩:=hI _ _ h2;exact⟨g2.trans h1,g1⟩
 |ref loc s off hA=>subst hK;exact hA.elim|fn f a b kS bv ha hb _ _ iha ihb=>exact .fn f a b kS bv ha hb iha ihb|yield l hA=>subst hK;exact hA.elim|fu loc s hA=>subst hK;exact hA.elim|fH ks vs b es fB hM' hb hk hv _ _ ihk L8=>subst hK;obtain⟨g1,g2⟩:=hM b hM';exact .fH ks vs b es fB g1 (g2.trans hb) hk hv ihk L8
 |iface t v c _ ih=>exact .iface t v c ih|raw v=>exact .raw v
theorem Rq {B b o:Nat}(h:Below B w w')(hb:b<B):w'.cell? (at_ b o)=w.cell? (at_ b o):=cell_of_heap (h.block b hb)
theorem Xa {I:Nat->Nat->Prop}{IM:Nat->Prop}(h:Rp E I IM w):bH E w.heap.size ah.init (bB.lend I IM) w where
 obj loc s ob hs:=by simp[ah.init] at hs
 own s hs:=hs.elim
 I b o hi:=⟨h.1 b o hi,fun loc e=>by simp[bB.lend] at e⟩
 IM b hi:=⟨h.2.1 b hi,fun loc e=>by simp[bB.lend] at e⟩
 loop l r hl:=by simp[ah.init] at hl
 glob g cs hg:=by have:=h.2.2 g cs hg;exact this.Ms (fun _ _ h=>⟨h,rfl⟩) (fun _ h=>⟨h,rfl⟩)
 rb b r hr:=by simp[bB.lend] at hr
 D b hd:=hd.elim
theorem ahM (hE:o7 E)(hS:EZ E S.call){f:FuncId}{args:List V}{v:V}(h:mP E S f args=some v):rJ E f args v:=by
 unfold mP at h;split at h
 .rename_i g hg;exact hE.mO f g hg args v h
 .simp only[iP] at h;obtain⟨⟨v0,aB⟩,hc,h⟩:=h;obtain⟨_,hb,hs⟩:=hS _ _ _ _ _ _ hc;refine⟨hb,fun I IM w dQ hl hr=>?_⟩;have hr':RelA (bB.lend I IM) ah.init.top w args dQ:=hr;refine(hs none w.heap.size (bB.lend I IM) w dQ (Xa hl) (iR _) (fun s hs=>hs.elim) hr').mono ?_;intro e w' hp;cases e with
  |returned c=>
   obtain⟨K1,r1,s1,_,st⟩:=hp;refine⟨st.below,?_⟩;have:=W9 (T':=fun _=>0) s1 20 v0 v c r1 h;refine this.Ms (fun b o hi=>⟨⟨?_,hi.2⟩,rfl⟩) (fun b hi=>⟨⟨?_,hi.2⟩,rfl⟩)
   .rcases hi.1 with h1|h1
    .exact st.zy b o h1
    .exact .inr h1
   .rcases hi.1 with h1|h1
    .exact st.zA b h1
    .exact .inr h1
  |panicked ch=>exact hp.elim|outgrown=>exact hp.elim
theorem Step.grow (h:bH E B0 Y K w)(hB:B0<=w.heap.size){new:Nat->Prop}(hb:Below w.heap.size w w'):
 Step E B0 new Y K w Y {K with I:=aR.grow K.I w.heap.size w',IM:=yx K.IM w.heap.size w'} w':=by
 have AU:∀b o,K.I b o->w'.cell? (at_ b o)=w.cell? (at_ b o):=fun b o hi=>Rq hb (lt_of_cell (h.I b o hi).1.choose_spec);have Cx:∀b,K.IM b->w'.heap[b]? =w.heap[b]? :=fun b hi=>by obtain⟨⟨es,fB,h1⟩,_⟩:=h.IM b hi;exact hb.block b (lt_of_heap h1)
 have e:Ext K Y.top w {K with I:=aR.grow K.I w.heap.size w',IM:=yx K.IM w.heap.size w'} Y.top w':=
  ⟨fun _ h=>⟨h,rfl,rfl,rfl⟩,fun _ _=>.inl ⟨rfl,rfl,rfl,rfl⟩,fun b o hi=>⟨⟨.inl hi,by rw[AU b o hi];exact(h.I b o hi).1⟩,AU b o hi⟩,
    fun b hi=>⟨⟨.inl hi,by rw[Cx b hi];exact(h.IM b hi).1⟩,Cx b hi⟩⟩
 refine⟨⟨fun loc s ob hs=>?_,fun s hs hl=>?_,fun b o hi=>⟨hi.2,?_⟩,fun b hi=>⟨hi.2,?_⟩,fun l r hl=>?_,fun g cs hg=>(h.glob g cs hg).ext e,fun b r hr=>?_,fun b hd=>?_⟩,e,
  ⟨hb.os,hb.tape,hb.output,hb.size,fun k hk=>hb.block k RS⟩,fun _ h=>h,fun _ h=>.inl h,fun b o hi=>hi.1.imp id RS,fun b hi=>hi.1.imp id RS⟩
 .obtain⟨a1,a2,a3⟩:=h.obj loc s ob hs;exact⟨a1,a2.ext e a1 (fun hr=>hb.block _ (h.rb _ _ (a3 hr)).1),a3⟩
 .obtain⟨a1,a2,a3⟩:=h.own s hs hl;have hlt:=(h.rb _ _ a2).1;refine⟨a1,a2,fun o h1 h2=>?_⟩;obtain⟨c1,⟨v,c2⟩,c3⟩:=a3 o h1 h2;refine⟨fun hi=>?_,⟨v,(Rq hb hlt).trans c2⟩,?_⟩
  .rcases hi.1 with h1|h1
   .exact c1 h1
   .have:w.heap.size<=K.ob s:=h1;omega
  .rw[frozen_of_heap (hb.block _ hlt)];exact c3
 .intro loc hZ;rcases hi.1 with h1|h1
  .exact(h.I b o h1).2 loc hZ
  .have:=(h.rb _ _ hZ).1;omega
 .intro loc hZ;rcases hi.1 with h1|h1
  .exact(h.IM b h1).2 loc hZ
  .have:=(h.rb _ _ hZ).1;omega
 .obtain⟨a1,a2⟩:=h.loop l r hl;exact⟨a1,a2.ext e a1 (hb.block _ (h.rb _ _ a2.2.1).1) rfl⟩
 .have:=h.rb b r hr;exact⟨nC this.1 hb.size,this.2⟩
 .have:=h.D b hd;rw[hb.block b (lt_of_heap this)];exact this
def bB.pR (K:bB)(B:Nat)(w':World)(st ob lo hi:Nat):bB:=
 {K with A:=fun x=>K.A x\/x=st,ob:=upd K.ob st ob,lo:=upd K.lo st lo,hi:=upd K.hi st hi,I:=fun b o=>aR.grow K.I B w' b o/\¬(b=ob/\lo<=o/\o<hi),IM:=yx K.IM B w',Z:=fun b=>if b=ob/\lo<hi then some (.own st) else K.Z b}
theorem Step.pR (h:bH E B0 Y K w)(hB:B0<=w.heap.size){st T1:Nat}(hst:¬K.A st)(hb:Below w.heap.size w w'){ob lo hi:Nat}(ho:lo<hi->w.heap.size<=ob/\∀o,lo<=o->o<hi->(∃v,w'.cell? (at_ ob o)=some v)/\w'.frozen? (at_ ob o)=false):
 Step E B0 (· =st) Y K w (Y.eB st T1) (K.pR w.heap.size w' st ob lo hi) w':=by
 have AU:∀b o,K.I b o->w'.cell? (at_ b o)=w.cell? (at_ b o):=fun b o hi=>Rq hb (lt_of_cell (h.I b o hi).1.choose_spec);have Cx:∀b,K.IM b->w'.heap[b]? =w.heap[b]? :=fun b hi=>by obtain⟨⟨es,fB,h1⟩,_⟩:=h.IM b hi;exact hb.block b (lt_of_heap h1)
 have hne:∀x,K.A x->x≠st:=fun x hx e=>hst (e▸hx);have Xb:∀b,b<w.heap.size->(K.pR w.heap.size w' st ob lo hi).Z b=K.Z b:=fun b hbl=>by show (if b=ob/\lo<hi then some (Hr.own st) else K.Z b)=K.Z b;rw[if_neg];rintro⟨rfl,h2⟩;have:=(ho h2).1;omega
 have hold:∀b o,b<w.heap.size->¬(b=ob/\lo<=o/\o<hi):=by rintro b o hbl ⟨rfl,h2,h3⟩;have:=(ho RS).1;omega
 have e:Ext K Y.top w (K.pR w.heap.size w' st ob lo hi) (Y.eB st T1).top w':=
  ⟨fun _ h=>⟨.inl h,rfl,rfl,rfl⟩,fun x hx=>.inl ⟨upd_ne _ _ (hne x hx),upd_ne _ _ (hne x hx),upd_ne _ _ (hne x hx),upd_ne _ _ (hne x hx)⟩,
    fun b o hi=>⟨⟨⟨.inl hi,by rw[AU b o hi];exact(h.I b o hi).1⟩,hold b o (lt_of_cell (h.I b o hi).1.choose_spec)⟩,AU b o hi⟩,
    fun b hi=>⟨⟨.inl hi,by rw[Cx b hi];exact(h.IM b hi).1⟩,Cx b hi⟩⟩
 refine⟨⟨fun loc s x hs=>?_,fun s hs hl=>?_,fun b o hq=>⟨hq.1.2,?_⟩,fun b hq=>⟨hq.2,?_⟩,fun l r hl=>?_,fun g cs hg=>(h.glob g cs hg).ext e,fun b r hr=>?_,fun b hd=>?_⟩,e,
  ⟨hb.os,hb.tape,hb.output,hb.size,fun k hk=>hb.block k RS⟩,fun _ h=>h,fun _ h=>h,fun b o hi=>hi.1.1.imp id RS,fun b hi=>hi.1.imp id RS⟩
 .obtain⟨a1,a2,a3⟩:=h.obj loc s x hs;refine⟨.inl a1,a2.ext e a1 (fun hr=>hb.block _ (h.rb _ _ (a3 hr)).1),fun hr=>?_⟩;show (K.pR w.heap.size w' st ob lo hi).Z (K.blk s)=_;rw[Xb _ (h.rb _ _ (a3 hr)).1];exact a3 hr
 .by_cases hxs:s=st
  .subst hxs;have q1:(K.pR w.heap.size w' s ob lo hi).ob s=ob:=upd_same _ _ _;have q2:(K.pR w.heap.size w' s ob lo hi).lo s=lo:=upd_same _ _ _;have q3:(K.pR w.heap.size w' s ob lo hi).hi s=hi:=upd_same _ _ _;rw[q2,q3] at hl;obtain⟨o1,o2⟩:=ho hl;refine⟨by rw[q1];omega,?_,fun o h1 h2=>?_⟩
   .rw[q1];show (if ob=ob/\lo<hi then some (Hr.own s) else K.Z ob)=_;rw[if_pos ⟨rfl,hl⟩]
   .rw[q2] at h1;rw[q3] at h2;rw[q1];exact⟨fun hI=>hI.2 ⟨rfl,h1,h2⟩,(o2 o h1 h2).1,(o2 o h1 h2).2⟩
  .have hA:K.A s:=hs.resolve_right hxs;have q1:(K.pR w.heap.size w' st ob lo hi).ob s=K.ob s:=upd_ne _ _ hxs;have q2:(K.pR w.heap.size w' st ob lo hi).lo s=K.lo s:=upd_ne _ _ hxs;have q3:(K.pR w.heap.size w' st ob lo hi).hi s=K.hi s:=upd_ne _ _ hxs;rw[q2,q3] at hl;obtain⟨a1,a2,a3⟩:=h.own s hA hl;have hlt:=(h.rb _ _ a2).1;refine⟨by rw[q1];exact a1,by rw[q1,Xb _ hlt];exact a2,fun o h1 h2=>?_⟩;rw[q2] at h1;rw[q3] at h2;rw[q1];obtain⟨c1,⟨v,c2⟩,c3⟩:=a3 o h1 h2;refine⟨fun hi=>?_,⟨v,(Rq hb hlt).trans c2⟩,?_⟩
   .rcases hi.1.1 with h1|h1
    .exact c1 h1
    .omega
   .rw[frozen_of_heap (hb.block _ hlt)];exact c3
 .intro loc hZ;have AV:(if b=ob/\lo<hi then some (Hr.own st) else K.Z b)=some (.obj loc):=hZ;split at AV
  .cases AV
  .rcases hq.1.1 with h1|h1
   .exact(h.I b o h1).2 loc AV
   .have:=(h.rb _ _ AV).1;omega
 .intro loc hZ;have AV:(if b=ob/\lo<hi then some (Hr.own st) else K.Z b)=some (.obj loc):=hZ;split at AV
  .cases AV
  .rcases hq.1 with h1|h1
   .exact(h.IM b h1).2 loc AV
   .have:=(h.rb _ _ AV).1;omega
 .obtain⟨a1,a2⟩:=h.loop l r hl;exact⟨.inl a1,a2.ext e a1 (hb.block _ (h.rb _ _ a2.2.1).1) (Xb _ (h.rb _ _ a2.2.1).1)⟩
 .have hr':(if b=ob/\lo<hi then some (Hr.own st) else K.Z b)=some r:=hr;split at hr'
  .rename_i hc;obtain⟨o1,o2⟩:=ho hc.2;obtain⟨⟨v,hv⟩,_⟩:=o2 lo (iR _) hc.2;rw[hc.1];exact⟨lt_of_cell hv,RS⟩
  .have:=h.rb b r hr';exact⟨nC this.1 hb.size,this.2⟩
 .have:=h.D b hd;rw[hb.block b (lt_of_heap this)];exact this
end
section
variable {E:Env}{S:iV}{K K':bB}{w w':World}{Y Y':ah}{B0:Nat}
theorem Xc (w:World)(b:Nat)(o:Obj):Only b w (w.putObj b o):=⟨rfl,rfl,rfl,aD,fun _ hk _=>World.putObj_heap_other hk⟩
theorem Step.nM (h:bH E B0 Y K w)(hB:B0<=w.heap.size){new:Nat->Prop}{l:Nat}{r r':EL}(hl:Y.loops l=some r)(h1:r'.fr=r.fr)(h2:r'.ps=r.ps)(h3:r'.gF=r.gF)(h4:r'.body=r.body){rec:Go.Loop}(hr:w.heap[K.lp l]? =some (.loop rec)):
 Step E B0 new Y K w (Y.nM l r') K (w.putObj (K.lp l) (.loop {rec with state:=tQ r'.st,pending:=r'.pend.bind vk})):=by
 obtain⟨hA,hb0,hZ,fn,tmps,D,hh,hf,hok⟩:=h.loop l r hl;have hrec:rec={state:=tQ r.st,pending:=r.pend.bind vk,fn:=fn,tmps:=tmps,params:=r.ps.toArray,assign:=r.gF,body:=r.body,defers:=D}:=by rw[hh] at hr;simpa using hr.symm
 have hlt:=lt_of_heap hr;have ho:=Xc w (K.lp l) (.loop {rec with state:=tQ r'.st,pending:=r'.pend.bind vk});have hnew:(w.putObj (K.lp l) (.loop {rec with state:=tQ r'.st,pending:=r'.pend.bind vk})).heap[K.lp l]? =some (.loop {rec with state:=tQ r'.st,pending:=r'.pend.bind vk}):=World.putObj_heap_same hlt;have hcell:∀b o v,w.cell? (at_ b o)=some v->b≠K.lp l:=fun b o v hv e=>by subst e;simp[World.cell?,hr] at hv
 have e:Ext K Y.top w K Y.top (w.putObj (K.lp l) (.loop {rec with state:=tQ r'.st,pending:=r'.pend.bind vk})):=by
  refine⟨fun _ h=>⟨h,rfl,rfl,rfl⟩,fun _ _=>.inl ⟨rfl,rfl,rfl,rfl⟩,fun b o hi=>⟨hi,?_⟩,fun b hi=>⟨hi,?_⟩⟩
  .obtain⟨⟨v,hv⟩,_⟩:=h.I b o hi;exact cell_of_heap (ho.block b (hcell b o v hv) (lt_of_cell hv))
  .obtain⟨⟨es,fB,hv⟩,_⟩:=h.IM b hi;exact ho.block b (wO hv hr aD) (lt_of_heap hv)
 refine⟨?_,e,ho.below hb0 hB,fun _ h=>h,fun _ h=>.inl h,fun _ _ h=>.inl h,fun _ h=>.inl h⟩;refine h.upd (Y':=Y.nM l r') ho e (fun _ _=>rfl) (fun r hr'=>⟨by simpa using hlt,hb0⟩) ?_ ?_ ?_ ?_ ?_ ?_
 .intro loc s ob hs;refine .inl ⟨hs,fun rG=>?_⟩;intro e';have:=(h.obj loc s ob hs).2.2 rG;rw[e',hZ] at this;cases this
 .intro s hs hlt';refine .inl ⟨hs,rfl,rfl,rfl,fun e'=>?_⟩;have:=(h.own s hs hlt').2.1;rw[e',hZ] at this;cases this
 .intro b' o hi;obtain⟨⟨v,hv⟩,_⟩:=h.I b' o hi;exact .inl ⟨hi,hcell b' o v hv⟩
 .intro b' hi;obtain⟨⟨es,fB,hv⟩,_⟩:=h.IM b' hi;exact .inl ⟨hi,wO hv hr aD⟩
 .intro l' r1 hl';by_cases hll:l'=l
  .subst hll;right;have hr1:r'=r1:=by simpa [ah.nM,upd] using hl'
   subst hr1;refine⟨hA,hb0,hZ,fn,tmps,D,?_,?_,?_⟩
   .rw[hnew,hrec,h2,h3,h4]
   .rw[h1];exact hf.ext e
   .rw[h2,h3,h4];exact hok
  .left;have hl1:Y.loops l'=some r1:=by simpa [ah.nM,upd,hll] using hl'
   refine⟨hl1,fun e'=>?_⟩;have:=(h.loop l' r1 hl1).2.2.1;rw[e',hZ] at this;cases this;exact hll rfl
 .intro b' hd;exact .inl ⟨hd,wO (h.D b' hd) hr aD⟩
theorem arD {T:Nat->Nat}:∀(ps:List Nat)(args:List V)(cs:List Value)(fr:Fr)(tmps:Array Value),ps.length=args.length->args.length=cs.length->mR K T w fr tmps->(∀i,i<args.length->Rel K T w (args.getD i aP) (cs.getD i undef))->(∀p∈ps,p<tmps.size)->mR K T w {fr with tm:=(ps.zip args).foldl (fun tm (p,a)=>upd tm p a) fr.tm} ((ps.zip cs).foldl (fun tmps (t,a)=>tmps.setIfInBounds t a) tmps)/\
   ((ps.zip cs).foldl (fun tmps (t,a)=>tmps.setIfInBounds t a) tmps).size=tmps.size:=by
 intro ps;induction ps with
 |nil=>intro args cs fr tmps _ _ hf _ _;exact⟨hf,rfl⟩|cons p ps ih=>
  intro args cs fr tmps hl hl2 hf hr hp;cases args with
  |nil=>simp at hl|cons a args=>
   cases cs with
   |nil=>simp at hl2|cons c cs=>have hput:=mR.put (K:=K) (w:=w) (T:=T) (a:={tmps:=tmps,defers:=[]}) hf (d:=some p) (v:=a) (c:=c) (hr 0 aD) (fun i hi=>by cases hi;exact hp p aD);have:=ih args cs (fr.set p a) (tmps.setIfInBounds p c) Ca (by simpa using hl2) hput (fun i hi=>hr (i+1) kg) (fun q hq=>by simpa using hp q (by simp[hq]));refine⟨this.1,this.2.trans aD⟩
theorem zip_toArray (ps:List Nat)(cs tmps:Array Value):(ps.toArray.zip cs).foldl (fun tmps (t,a)=>tmps.setIfInBounds t a) tmps=(ps.zip cs.toList).foldl (fun tmps (t,a)=>tmps.setIfInBounds t a) tmps:=by
 rw[<-Array.foldl_toList];congr 1;simp
theorem arE (hS:H9 E S.code)(h:bH E B0 Y K w)(hB:B0<=w.heap.size)(hA:∀s,K.A s->s<Y.next){l:Nat}{args:List V}{dQ:Array Value}{v:V}(hv:yt S l args Y=some (v,Y'))(ra:RelA K Y.top w args dQ):
 Y.next<=Y'.next/\∃fn tmps gF body,(Instr.yield (K.lp l) dQ).run E.P w= .ok (.round (K.lp l) fn tmps gF body) w/\RoundIn Fence.wide 0 E.P (K.lp l) fn tmps gF body w (wS E B0 Y K w v Y'):=by
 unfold yt at hv;simp only[iP] at hv;obtain⟨r,hl,hv⟩:=hv;split at hv
 .rename_i hst;simp only[iP] at hv;obtain⟨⟨e1,bK,aB⟩,Mt,hv⟩:=hv;cases e1 with
  |normal=>
   simp only[iP] at hv;obtain⟨r1,hl1,hv⟩:=hv;split at hv
   .rename_i Ib;simp only[iP] at hv;obtain⟨⟨e2,jf,dn⟩,hbody,r2,hl2,hv⟩:=hv;split at hv
    .rename_i aGH;obtain⟨arF,hb0,hZ,fn,tmps,D,hh,hf,hok1,hok2,hps,hn1,hn2⟩:=h.loop l r hl;obtain⟨hle1,hw1⟩:=hS _ _ _ _ _ _ Mt;obtain⟨hle2,hw2⟩:=hS _ _ _ _ _ _ hbody;have arG:aB.next<=dn.next:=hle2;have hnext:Y'.next=dn.next:=by
      cases e2<;>simp only[iE,mF] at hv<;>obtain⟨_,rfl⟩:=hv<;>rfl
     refine⟨RS,?_⟩;have hsz:dQ.size=r.ps.length:=(by have:=ra.1;omega);have Xd:=run_yield (P:=E.P) (args:=dQ) hh (by simpa using hsz);refine⟨_,_,_,_,Xd,?_⟩;dsimp only;rw[zip_toArray];have Xe:=arD (K:=K) (w:=w) (T:=Y.top) r.ps args dQ.toList r.fr tmps hst.2 (by have:=ra.1;simpa using this) hf (fun i hi=>by rw[Rh];exact ra.2 i hi) hps;generalize aGI:(r.ps.zip dQ.toList).foldl (fun tmps (t,a)=>tmps.setIfInBounds t a) tmps=arH at Xe;refine roundIn_of_wpIn trivial ?_;have hs0:St E B0 Y K w {r.fr with tm:=(r.ps.zip args).foldl (fun tm (p,a)=>upd tm p a) r.fr.tm} {tmps:=arH,defers:=[]} tmps.size ⟨[],0,true⟩:=
      ⟨h,hB,Xe.1,Xe.2,⟨[],rfl,List.nodup_nil,(fun b hb=>by cases hb),fun _=>rfl⟩,hA,oZ _⟩
     refine wpIn_mono (hw1 (some (K.lp l)) B0 K w _ tmps.size ⟨[],0,true⟩ hs0 hok1 (.inr hn1)) ?_;rintro x a1 w1 ⟨hx,K1,hs1,st1⟩;cases x<;>simp only[nQ] at hx;obtain⟨arI,hb1,aGJ,ahN,ahO,D1,ahP,hf1,_⟩:=hs1.ok.loop l r1 hl1;have Ic:K1.lp l=K.lp l:=(st1.ext.A l arF).2.2.1;have hbr:=run_beginRound (P:=E.P) ahP (by simp[tQ,Ib]);have Rs:=Step.nM (new:=newer aB (aB.nM l {r1 with st:=1})) hs1.ok hs1.hB (r':={r1 with st:=1}) hl1 rfl rfl rfl rfl ahP;rw[Ic] at hbr;refine⟨_,hbr,?_⟩;have arJ:(w1.putObj (K.lp l) (.loop {state:=LoopState.busy,pending:=r1.pend.bind vk,fn:=ahN,tmps:=ahO,params:=r1.ps.toArray,assign:=r1.gF,body:=r1.body,defers:=D1}))=
      (w1.putObj (K1.lp l) (.loop {({state:=tQ r1.st,pending:=r1.pend.bind vk,fn:=ahN,tmps:=ahO,params:=r1.ps.toArray,assign:=r1.gF,body:=r1.body,defers:=D1}:Go.Loop) with state:=tQ 1,pending:=r1.pend.bind vk})):=by
      rw[Ic];rfl
     dsimp only;rw[arJ];have arK:St E B0 (aB.nM l {r1 with st:=1}) K1 _ bK a1 tmps.size ⟨[],0,true⟩:=
      ⟨Rs.ok,eX hs1.hB Rs.below.size,hs1.fr.ext Rs.ext,hs1.sz,hs1.df,hs1.st,oZ _⟩
     have st01:=Step.trans (new:=newer Y aB) st1 (Rs.mono (fun s hs=>by have h1:aB.next<=s:=hs.1;have h2:s<aB.next:=hs.2;omega));refine wpIn_mono (hw2 (some (K.lp l)) B0 K1 _ a1 tmps.size ⟨[],0,true⟩ arK hok2 (.inr hn2)) ?_;rintro x a2 w2 ⟨hx2,K2,hs2,st2⟩;obtain⟨aGK,hb2,aGL,arL,arM,D2,ahQ,hf2,_⟩:=hs2.ok.loop l r2 hl2;have Rt:K2.lp l=K.lp l:=((st2.ext.A l arI).2.2.1).trans Ic;have rM:Step E B0 (newer Y dn) Y K w dn K2 w2:=by
      refine(st01.mono ?_).trans (st2.mono ?_)
      .intro s hs;exact⟨hs.1,nC hs.2 arG⟩
      .intro s hs;exact⟨eX hle1 hs.1,hs.2⟩
     have fin:∀(r':EL)(b:Bool),r'.fr=r2.fr->r'.ps=r2.ps->r'.gF=r2.gF->r'.body=r2.body->Y'=dn.nM l r'->v= .bool b->
      wS E B0 Y K w v Y' (.returned (.bool b)) (w2.putObj (K2.lp l) (.loop {({state:=tQ r2.st,pending:=r2.pend.bind vk,fn:=arL,tmps:=arM,params:=r2.ps.toArray,assign:=r2.gF,body:=r2.body,defers:=D2}:Go.Loop) with state:=tQ r'.st,pending:=r'.pend.bind vk})):=by
      intro r' b h1 h2 h3 h4 h5 h6;have arN:=Step.nM (new:=newer Y dn) hs2.ok hs2.hB (r':=r') hl2 h1 h2 h3 h4 ahQ;subst h5 h6;have Ru:=rM.trans arN;exact⟨K2,.bool b,Ru.ok,hs2.st,Ru⟩
     have hend:=fun jump=>run_endRound (P:=E.P) jump ahQ;rw[Rt] at hend;cases e2 with
     |normal=>
      cases x<;>simp only[nQ] at hx2;simp only[iE,mF] at hv;refine⟨_,_,hend none,?_⟩;have:=fin {r2 with st:=0,pend:=none} true rfl rfl rfl rfl hv.2.symm hv.1.symm;rw[Rt] at this;exact this
     |exit i=>
      cases x<;>simp only[nQ] at hx2;subst hx2;simp only[iE,mF] at hv;refine⟨_,_,hend (some (.exit i)),?_⟩;have:=fin {r2 with st:=2,pend:=some (.exit i)} false rfl rfl rfl rfl hv.2.symm hv.1.symm;rw[Rt] at this;exact this
     |ret=>
      cases x<;>simp only[nQ] at hx2;simp only[iE,mF] at hv;refine⟨_,_,hend (some .ret),?_⟩;have:=fin {r2 with st:=2,pend:=some .ret} false rfl rfl rfl rfl hv.2.symm hv.1.symm;rw[Rt] at this;exact this
    .simp at hv
   .simp at hv
  |exit i=>simp at hv|ret=>simp at hv
 .simp at hv
theorem arO (hS:H9 E S.code){l:Nat}{args:List V}{v:V}(hv:yt S l args Y=some (v,Y')):Y.next<=Y'.next:=by
 unfold yt at hv;simp only[iP] at hv;obtain⟨r,hl,hv⟩:=hv;split at hv
 .simp only[iP] at hv;obtain⟨⟨e1,bK,aB⟩,Mt,hv⟩:=hv;cases e1 with
  |normal=>
   simp only[iP] at hv;obtain⟨r1,hl1,hv⟩:=hv;split at hv
   .simp only[iP] at hv;obtain⟨⟨e2,jf,dn⟩,hbody,r2,hl2,hv⟩:=hv;split at hv
    .have h1:=(hS _ _ _ _ _ _ Mt).1;have h2:aB.next<=dn.next:=(hS _ _ _ _ _ _ hbody).1;have h3:Y'.next=dn.next:=by
      cases e2<;>simp only[iE,mF] at hv<;>obtain⟨_,rfl⟩:=hv<;>rfl
     omega
    .simp at hv
   .simp at hv
  |exit i=>simp at hv|ret=>simp at hv
 .simp at hv
end
section
variable {E:Env}{S:iV}{K K':bB}{T T':Nat->Nat}{w w':World}{Y Y':ah}{B0:Nat}
theorem Xf {n:Nat}{x y:V}(hp:aQ x=true)(h:bA n Y x=some y):y=x:=by
 cases n with
 |zero=>simp[bA] at h|succ n=>unfold bA at h;simp only[hp,if_true,iE] at h;exact h.symm
theorem ahR {f:V->Option V}{l r:List V}(h:l.mapM f=some r)(g:V->V)(hf:∀i (hi:i<l.length) y,f l[i]=some y->y=g l[i]):r=l.map g:=by obtain⟨h1,h2⟩:=mapM_some h;refine List.ext_getElem (by simp[h1]) (fun i hi hi'=>?_);obtain⟨h3,h4⟩:=h2 i RS;simp only[Cg];exact hf i RS _ h4
theorem Mv {l:List V}(h:cu l=true){i:Nat}(hi:i<l.length):aQ l[i]=true:=by
 have:=vw h i hi
 rwa[kK hi] at this
theorem ahS {n:Nat}{c:Cap}{l:List V}{y:V}(hp:cu l=true)(h:bA n Y (.ak c l)=some y):y= .ak .sh l:=by
 cases n with
 |zero=>simp[bA] at h|succ n=>
  unfold bA at h;split at h
  .rename_i hc;simp only[iE] at h;subst h;cases c<;>simp only[aQ,dI] at hc;rfl
  .simp only[aZ] at h;obtain⟨r,hr,rfl⟩:=h;have:=ahR hr id (fun i hi y hy=>Xf (Mv hp hi) hy);rw[this,List.map_id]
theorem arP {x:V}(hp:aQ x=true):gH x=x:=by
 cases x with
 |ak c l=>cases c<;>simp only[aQ,dI] at hp;rfl|_=>rfl
theorem arQ {n:Nat}{x y:V}(hp:aQ (gH x)=true)(h:bA n Y x=some y):y=gH x:=by
 cases x with
 |ak c l=>exact ahS (by simpa [gH,aQ] using hp) h|_=>exact Xf hp h
theorem ahT {n:Nat}{x y:V}(hp:aQ (er x)=true)(h:bA n Y x=some y):y=er x:=by
 cases x with
 |ak c l=>exact ahS QO h|agg cs=>
  have hp':cu (cs.map gH)=true:=QO
  have hpi:∀i (hi:i<cs.length),aQ (gH cs[i])=true:=fun i hi=>by have:=Mv hp' (i:=i) kg;simpa using this
  cases n with
  |zero=>simp[bA] at h|succ n=>
   unfold bA at h;split at h
   .rename_i hc;simp only[iE] at h;subst h;have hc':cu cs=true:=(by simpa [aQ] using hc);show V.agg cs=V.agg (cs.map gH);congr 1;refine List.ext_getElem aD (fun i hi hi'=>?_);simp only[Cg];exact(arP (Mv hc' hi)).symm
   .simp only[aZ] at h;obtain⟨r,hr,rfl⟩:=h;show V.agg r=V.agg (cs.map gH);rw[ahR hr gH (fun i hi y hy=>arQ (hpi i hi) hy)]
 |_=>exact Xf hp h
theorem Ie {a b:List V}{ca cb:Array Value}(h:RelA K T w a ca)(g:RelA K T w b cb):RelA K T w (a++b) (ca++cb):=by
 obtain⟨h1,h2⟩:=h;obtain⟨g1,g2⟩:=g;refine⟨by simp[h1,g1],fun i hi=>?_⟩;have hi':i<a.length+b.length:=kg
 by_cases hlt:i<a.length
 .have e1:(a++b).getD i aP=a.getD i aP:=by simp[List.getD,Wd hlt]
  have e2:(ca++cb).getD i undef=ca.getD i undef:=by simp only[zn];rw[Array.getElem?_append_left RS]
  rw[e1,e2];exact h2 i hlt
 .have e1:(a++b).getD i aP=b.getD (i-a.length) aP:=by simp[List.getD,List.getElem?_append_right (Nat.le_of_not_lt hlt)]
  have e2:(ca++cb).getD i undef=cb.getD (i-a.length) undef:=by simp only[zn];rw[Array.getElem?_append_right RS,<-h1]
  rw[e1,e2];exact g2 _ RS
theorem ahU {l r:List V}{cl:Array Value}{n:Nat}{K2:bB}{T2:Nat->Nat}(h:RelA K T w l cl)(hm:l.mapM (bA n Y)=some r)(hx:∀x y c,x∈l->Rel K T w x c->bA n Y x=some y->Rel K2 T2 w y c):RelA K2 T2 w r cl:=by
 obtain⟨h1,h2⟩:=h;obtain⟨m1,m2⟩:=mapM_some hm;refine⟨RS,fun i hi=>?_⟩;obtain⟨h3,h4⟩:=m2 i RS;have:=h2 i RS;rw[kK (show i<l.length by omega)] at this;rw[kK h3];exact hx _ _ _ (lq _) this h4
theorem arR {b:Bool}{l r:List V}(h:vg b Y l=some r):l.length=r.length/\∀i (hi:i<l.length),∃(h':i<r.length),(l[i]= .ak .nil []/\r[i]= .ak .nil [])\/bA 20 Y l[i]=some r[i]:=by
 unfold vg at h;split at h
 .split at h
  .rename_i l;obtain⟨l',hm,rfl⟩:=aZ.1 h;obtain⟨m1,m2⟩:=mapM_some hm;refine⟨by simp[m1],fun i hi=>?_⟩;cases i with
   |zero=>exact⟨aD,.inl ⟨rfl,rfl⟩⟩|succ i=>obtain⟨h1,h2⟩:=m2 i kg;exact⟨GZ,.inr uQ⟩
  .cases h
 .obtain⟨m1,m2⟩:=mapM_some h;exact⟨m1,fun i hi=>by obtain⟨h1,h2⟩:=m2 i hi;exact⟨h1,.inr h2⟩⟩
theorem arS {b:Bool}{l r:List V}{cl:Array Value}{K2:bB}{T2:Nat->Nat}(h:RelA K T w l cl)(hm:vg b Y l=some r)(hx:∀x y c,x∈l->Rel K T w x c->(x= .ak .nil []/\y= .ak .nil [])\/bA 20 Y x=some y->Rel K2 T2 w y c):RelA K2 T2 w r cl:=by
 obtain⟨h1,h2⟩:=h;obtain⟨m1,m2⟩:=arR hm;refine⟨RS,fun i hi=>?_⟩;obtain⟨h3,h4⟩:=m2 i RS;have:=h2 i RS;rw[kK (show i<l.length by omega)] at this;rw[kK h3];exact hx _ _ _ (lq _) this h4
theorem ahV (hE:o7 E)(h:bH E B0 Y K w):Rp E K.I K.IM w:=
 ⟨fun b o hi=>(h.I b o hi).1,fun b hi=>(h.IM b hi).1,fun g cs hg=>(h.glob g cs hg).pure (by simpa [aQ] using hE.flat g cs hg) (fun _ _ h=>⟨h,rfl⟩) (fun _ h=>⟨h,rfl⟩)⟩
theorem arT (hE:o7 E)(h:bH E B0 Y K w):Rp E (fun b o=>∃v,w.cell? (at_ b o)=some v) (fun b=>∃es fB,w.heap[b]? =some (.map es fB)) w:=
 ⟨fun _ _ hi=>hi,fun _ hi=>hi,fun g cs hg=>(h.glob g cs hg).pure (by simpa [aQ] using hE.flat g cs hg) (fun b o hi=>⟨(h.I b o hi).1,rfl⟩) (fun b hi=>⟨(h.IM b hi).1,rfl⟩)⟩
theorem ahW (hE:o7 E)(hS:EZ E S.call)(h:bH E B0 Y K w)(hB:B0<=w.heap.size)(hA:∀s,K.A s->s<Y.next){d:Nat}{fv:V}{cf:Value}{args:List V}{dQ:Array Value}{v:V}(hfn:∃f a b,fv= .fn (.func f) a b)(hv:jO E S d Y fv args=some (v,Y'))(rf:Rel K Y.top w fv cf)(ra:RelA K Y.top w args dQ):
 Y.next<=Y'.next/\∃f first cap,cf= .func (.func f) first cap/\Cw E f/\CallsIn Fence.wide 0 E.P f (first++dQ++cap) w (wS E B0 Y K w v Y'):=by
 obtain⟨f,a,b,rfl⟩:=hfn;unfold jO at hv
 .dsimp only at hv;cases rf with
  |fn _ _ _ kS bv ha hb Mw Mx=>
  have MB:RelA K Y.top w (a++args++b) (kS++dQ++bv):=Ie (Ie ⟨ha,Mw⟩ ra) ⟨hb,Mx⟩;split at hv
  .obtain⟨h1,h2,h3⟩:=hS _ _ _ _ _ _ hv;exact⟨h1,f,kS,bv,rfl,h2,h3 none B0 K w _ h hB hA MB⟩
  .simp only[iP] at hv;obtain⟨dP,has,r,hr,hv⟩:=hv;split at hv
   .rename_i hcl;simp only[iE,mF] at hv;obtain⟨rfl,rfl⟩:=hv;obtain⟨p1,p2⟩:=ahM hE hS hr;refine⟨iR _,f,kS,bv,rfl,p1,?_⟩;simp only[wM,lK] at hcl;rcases hcl with hcl|hcl
    .have MC:RelA (bB.lend K.I K.IM) (fun _=>0) w dP (kS++dQ++bv):=(by refine ahU MB has (fun x y c hx o8 hxy=>?_);have hp:=hcl x hx;rw[ahT hp hxy];exact(WK o8).pure hp (fun _ _ h=>⟨h,rfl⟩) (fun _ h=>⟨h,rfl⟩));refine(p2 _ _ w _ (ahV hE h) MC).mono ?_;intro e w' hp;cases e with
     |returned c=>obtain⟨hb',hr'⟩:=hp;have st:=Step.grow (new:=newer Y Y) h hB hb';exact⟨_,hr'.Ms (fun _ _ h=>⟨h,rfl⟩) (fun _ h=>⟨h,rfl⟩),st.ok,hA,st⟩
     |panicked ch=>exact hp.elim|outgrown=>exact hp.elim
    .have MC:RelA (bB.lend (fun b o=>∃v,w.cell? (at_ b o)=some v) (fun b=>∃es fB,w.heap[b]? =some (.map es fB))) (fun _=>0) w dP (kS++dQ++bv):=(by refine ahU MB has (fun x y c hx o8 hxy=>?_);exact(W9 (T':=fun _=>0) h 20 x y c o8 hxy).Ms (fun _ _ h=>⟨h.2,rfl⟩) (fun _ h=>⟨h.2,rfl⟩));refine(p2 _ _ w _ (arT hE h) MC).mono ?_;intro e w' hp;cases e with
     |returned c=>obtain⟨hb',hr'⟩:=hp;have st:=Step.grow (new:=newer Y Y) h hB hb';exact⟨_,hr'.flat hcl,st.ok,hA,st⟩
     |panicked ch=>exact hp.elim|outgrown=>exact hp.elim
   .simp at hv
theorem arU (h:bH E B0 Y K w)(hB:B0<=w.heap.size){st:Nat}(hst:¬K.A st){aB:ah}{K1:bB}{v0 v:V}{c:Value}(hv:rE Y st aB v0=some (v,Y'))(r1:Rel K1 aB.top w' v0 c)(s1:bH E w.heap.size aB K1 w')(hb:Below w.heap.size w w')(hI:∀b o,K1.I b o->K.I b o\/w.heap.size<=b)(Wn:∀b,K1.IM b->K.IM b\/w.heap.size<=b):∃K',Rel K' Y'.top w' v c/\Step E B0 (· =st) Y K w Y' K' w':=by
 have Rv:∀b o,K1.I b o->aR.grow K.I w.heap.size w' b o:=fun b o hi=>⟨hI b o hi,(s1.I b o hi).1⟩;have ahX:∀b,K1.IM b->yx K.IM w.heap.size w' b:=fun b hi=>⟨Wn b hi,(s1.IM b hi).1⟩;unfold rE at hv;split at hv
 .rename_i cp l;split at hv
  .rename_i hp;cases cp with
   |nil=>
    cases hv;refine⟨_,?_,Step.grow h hB hb⟩;cases r1 with
    |fZ _ a ha hc=>exact .fZ .nil a ha trivial|ak _ _ b o n cap val hle hn hcell hrel hc=>exact hc.elim
   |full=>
    cases hv;refine⟨_,?_,Step.grow h hB hb⟩;cases r1 with
    |fZ _ a ha hc=>exact .fZ .full a (fun h=>dh) trivial
    |ak _ _ b o n cap val hle hn hcell hrel hc=>
     exact .ak .full l b o n cap val hle hn (fun i j hi hj=>⟨(hcell i j hi hj).1,Rv _ _ (hcell i j hi hj).2⟩)
      (fun i j hi hj=>(hrel i j hi hj).pure (WZ (vw hp i hi) (by rw[hn i hi];exact hj)) (fun b o hi=>⟨Rv b o hi,rfl⟩) (fun b hi=>⟨ahX b hi,rfl⟩)) hc
   |own n s=>
    dsimp only at hv;split at hv
    .rename_i htop;cases hv;have hown:K1.A s->K1.lo s<K1.hi s->w.heap.size<=K1.ob s/\∀o,K1.lo s<=o->o<K1.hi s->(∃v,w'.cell? (at_ (K1.ob s) o)=some v)/\w'.frozen? (at_ (K1.ob s) o)=false:=fun ha hl=>by obtain⟨a1,a2,a3⟩:=s1.own s ha hl;exact⟨a1,fun o h1 h2=>(a3 o h1 h2).2⟩
     have hnot:K1.A s->∀b o,K1.I b o->¬(b=K1.ob s/\K1.lo s<=o/\o<K1.hi s):=(by rintro ha b o hi ⟨rfl,h2,h3⟩;exact((s1.own s ha RS).2.2 o h2 h3).1 hi);have hA:K1.A s:=by
      cases r1 with
      |fZ _ a ha hc=>exact hc.1|ak _ _ b o n' cap val hle hn hcell hrel hc=>exact hc.2.1
     refine⟨_,?_,Step.pR h hB hst hb (hown hA)⟩;have t1:(Y.eB st l.length).top st=l.length:=upd_same _ _ _;have q1:(K.pR w.heap.size w' st (K1.ob s) (K1.lo s) (K1.hi s)).ob st=K1.ob s:=upd_same _ _ _;have q2:(K.pR w.heap.size w' st (K1.ob s) (K1.lo s) (K1.hi s)).lo st=K1.lo s:=upd_same _ _ _;have q3:(K.pR w.heap.size w' st (K1.ob s) (K1.lo s) (K1.hi s)).hi st=K1.hi s:=upd_same _ _ _;cases r1 with
     |fZ _ a ha hc=>refine .fZ _ a (fun h=>dh) ⟨.inr rfl,fun _=>?_⟩;rw[q2,q3];exact hc.2 htop
     |ak _ _ b o n' cap val hle hn hcell hrel hc=>
      refine .ak _ l b o n' cap val hle hn (fun i j hi hj=>⟨(hcell i j hi hj).1,Rv _ _ (hcell i j hi hj).2,hnot hA _ _ (hcell i j hi hj).2⟩)
       (fun i j hi hj=>(hrel i j hi hj).pure (WZ (vw hp i hi) (by rw[hn i hi];exact hj)) (fun b o hi=>⟨⟨Rv b o hi,hnot hA b o hi⟩,rfl⟩) (fun b hi=>⟨ahX b hi,rfl⟩)) ?_
      refine⟨hc.1,.inr rfl,by rw[t1];exact iR _,fun _=>?_⟩;rw[q1,q2,q3];exact hc.2.2.2 htop.symm
    .cases hv
   |sh=>cases hv
  .cases hv
 .rename_i loc s off len cap bE ag;split at hv
  .rename_i h0;obtain⟨rfl,rfl⟩:=h0;obtain⟨cs,hcs,hv⟩:=iP.1 hv;cases hv;have fin:∀fD:Nat,K1.A s->fD*bE<=K1.sz s->∃K',Rel K' (Y.eB st 0).top w' (.ak (.own bE st) []) (.slice (some (at_ (K1.blk s) 0)) 0 fD)/\Step E B0 (· =st) Y K w (Y.eB st 0) K' w':=by
    intro fD hA hsz;obtain⟨g1,_,_⟩:=s1.wP hcs;obtain⟨a1,a2,a3⟩:=s1.obj _ _ _ g1;refine⟨K.pR w.heap.size w' st (K1.blk s) 0 (fD*bE),?_,Step.pR h hB hst hb (fun hlt=>?_)⟩
    .have t1:(Y.eB st 0).top st=0:=upd_same _ _ _;refine .ak _ [] (K1.blk s) 0 bE fD (fun _ _=>undef) (oZ _) (fun i hi=>absurd hi (gQ i)) (fun i j hi=>absurd hi (gQ i)) (fun i j hi=>absurd hi (gQ i)) ?_;refine⟨rfl,.inr rfl,oZ _,fun _=>⟨upd_same _ _ _,?_,?_⟩⟩
     .show upd K.lo st 0 st=_;rw[upd_same];simp
     .show upd K.hi st (fD*bE) st=_;rw[upd_same];simp
    .have hne:cs≠[]:=(by rintro rfl;have:=a2.1 rfl;omega);obtain⟨b1,vals,t,b2,b3,b4,b5⟩:=a2.2 hne;refine⟨b1,fun o h1 h2=>⟨⟨vals[o]' RS,?_⟩,?_⟩⟩
     .simp[World.cell?,b2]
     .unfold World.frozen?;simp only[b2];simp
   cases r1 with
   |aS _ _ _ _ _ _ _ fD hA hc hle hsz=>exact fin fD hA (by simpa using hsz)|oG _ _ _ _ hA=>refine⟨K.pR w.heap.size w' st 0 0 0,?_,Step.pR h hB hst hb (fun hlt=>absurd hlt (Nat.lt_irrefl _))⟩;refine .fZ _ none (fun h=>dh) ⟨.inr rfl,fun _=>?_⟩;show upd K.hi st 0 st=upd K.lo st 0 st;rw[upd_same,upd_same]
  .cases hv
 .cases hv
theorem ahY {st:Nat}{aB:ah}{v0 v:V}(hv:rE Y st aB v0=some (v,Y')):Y'.next=Y.next:=by
 by_cases hvw:∃loc s off len cap bE ag,v0= .aS loc s off len cap bE ag
 .obtain⟨loc,s,off,len,cap,bE,ag,rfl⟩:=hvw;unfold rE at hv;dsimp only at hv;split at hv
  .obtain⟨_,_,hv⟩:=iP.1 hv;cases hv;rfl
  .cases hv
 cases v0<;>first| (cases hv;done)|exact absurd ⟨_,_,_,_,_,_,_,rfl⟩ hvw|skip
 rename_i cp l;have hv':(if cu l=true then (match cp with
  |.nil=>some (V.ak .nil l,Y)|.full=>some (.ak .full l,Y)|.own n s=>if aB.top s=l.length then some (.ak (.own n st) l,Y.eB st l.length) else none|.sh=>none) else none)=some (v,Y'):=hv
 split at hv'
 .cases cp with
  |nil=>cases hv';rfl|full=>cases hv';rfl|own n s=>dsimp only at hv';split at hv'<;>cases hv';rfl|sh=>cases hv'
 .cases hv'
theorem arV (hE:o7 E)(hS:EZ E S.call)(h:bH E B0 Y K w)(hB:B0<=w.heap.size){st:Nat}(hst:¬K.A st){fv:V}{cf:Value}{args:List V}{dQ:Array Value}{v:V}(hv:qJ E S Y st fv args=some (v,Y'))(rf:Rel K Y.top w fv cf)(ra:RelA K Y.top w args dQ):
 Y'.next=Y.next/\∃f first cap,cf= .func (.func f) first cap/\Cw E f/\CallsIn Fence.wide 0 E.P f (first++dQ++cap) w (fun e w'=>∃c K',e= .returned c/\Rel K' Y'.top w' v c/\Step E B0 (· =st) Y K w Y' K' w'):=by
 unfold qJ at hv;split at hv
 .rename_i f a b;split at hv
  .rename_i hcl;simp only[iP] at hv;obtain⟨dP,has,⟨v0,aB⟩,hr,hv⟩:=hv;cases rf with
   |fn _ _ _ kS bv ha hb Mw Mx=>
   have MB:RelA K Y.top w (a++args++b) (kS++dQ++bv):=Ie (Ie ⟨ha,Mw⟩ ra) ⟨hb,Mx⟩;obtain⟨_,p1,p2⟩:=hS _ _ _ _ _ _ hr;have hnext:=ahY hv;refine⟨hnext,f,kS,bv,rfl,p1,?_⟩;simp only[lK] at hcl;have MC:RelA (bB.lend K.I K.IM) ah.init.top w dP (kS++dQ++bv):=by
    refine arS MB has (fun x y c hx o8 hxy=>?_);rcases hxy with ⟨rfl,rfl⟩|hxy
    .cases o8 with
     |fZ _ a ha hc=>exact .fZ .nil a ha trivial|ak _ _ b o n cap val hle hn hcell hrel hc=>exact hc.elim
    have hp:=hcl x hx;rw[ahT hp hxy];exact(WK o8).pure hp (fun _ _ h=>⟨h,rfl⟩) (fun _ h=>⟨h,rfl⟩)
   refine(p2 none w.heap.size (bB.lend K.I K.IM) w _ (Xa (ahV hE h)) (iR _) (fun s hs=>hs.elim) MC).mono ?_;intro e w' hp;cases e with
   |returned c=>obtain⟨K1,r1,s1,_,st1⟩:=hp;obtain⟨K',g1,g2⟩:=arU h hB hst hv r1 s1 st1.below st1.zy st1.zA;exact⟨c,K',rfl,g1,g2⟩
   |panicked ch=>exact hp.elim|outgrown=>exact hp.elim
  .cases hv
 .cases hv
theorem Rw (hE:o7 E){f:FuncId}(hb:Cw E f)(args:Array Value)(w:World):(callFunc f args).run E.P w= .ok (.enter f args) w:=by obtain⟨fn,c,hf,hc⟩:=hb;have hn:=hE.name f fn hf;simp[callFunc,hf,hc,hn]
theorem arW (hE:o7 E)(hS:Sound E S){fr fr':Fr}{a:Act}{n:Nat}{ds:H8}(hs:St E B0 Y K w fr a n ds){st:Nat}(hst:¬K.A st){o:Oper}{v:V}(hop:opC E S fr Y st o=some (v,fr',Y')):fr'=fr/\Y.next<=Y'.next/\(∀next Q ro,(∀c w' K',Rel K' Y'.top w' v c->Step E B0 (fun s=>s=st\/newer Y Y' s) Y K w Y' K' w'->next (a.put o.dst c) w')->
   o.wpIn (oU ro) 0 E.P a w next Q):=by
 have hdone:∀{v Y'},vv E B0 (· =st) Y K w (execOp a.eval o) v Y'->(∀c,o.op≠ .defer c)->∀next Q ro,(∀c w' K',Rel K' Y'.top w' v c->Step E B0 (fun s=>s=st\/newer Y Y' s) Y K w Y' K' w'->next (a.put o.dst c) w')->
  o.wpIn (oU ro) 0 E.P a w next Q:=fun hd ho next Q ro hn=>arq ho hd (fun c w' K' hr hst=>hn c w' K' hr (hst.mono (fun _ h=>.inl h)))
 unfold opC at hop;split at hop
 .rename_i c hc;have hnd:∀d,o.op≠ .defer d:=fun d hd=>by rw[hc] at hd;cases hd
  split at hop
  .rename_i b hb;simp only[aZ,mF] at hop;obtain⟨⟨v1,aB⟩,hv,rfl,rfl,rfl⟩:=hop;have hsame:=ahJ hv;refine⟨rfl,by rw[hsame.1];exact iR _,hdone ?_ hnd⟩;have hargs:=EX hs.ok hs.fr c.args;have hex:execOp a.eval o=builtin b c.argTypes o.type (c.args.map fun|.const _=>true|_=>false) (c.args.map a.eval):=by unfold execOp;simp only[hc];unfold resolve;simp only[hb];rfl
   rw[hex];exact ara hs.ok hs.hB hst hargs hv
  .rename_i f hf;split at hop
   .simp only[aZ,mF] at hop;obtain⟨⟨v1,aB⟩,hv,rfl,rfl,rfl⟩:=hop;obtain⟨hn1,g,first,cap,hcf,hbody,hcall⟩:=arV hE hS.call hs.ok hs.hB hst hv (AQ hs.ok hs.fr f) (EX hs.ok hs.fr c.args);refine⟨rfl,by rw[hn1];exact iR _,fun next Q ro hn=>⟨fun _ _=>trivial,?_⟩⟩;rw[Ro _ _ hnd];have hex:(execOp a.eval o).run E.P w= .ok (.enter g (first++c.args.map a.eval++cap)) w:=(by unfold execOp;simp only[hc];unfold resolve;simp only[hf,hcf,Deferred.ofValue,Sem.run_bind,Sem.run_pure,Result.andThen_ok,invoke];exact Rw hE hbody _ _);rw[hex,Oper.uponIn_enter];refine⟨fun hd=>QM,?_⟩;have h2:CallsIn (oU ro) (0-1) E.P g (first++c.args.map a.eval++cap) w (fun e w'=>∃c K',e= .returned c/\Rel K' aB.top w' v1 c/\Step E B0 (· =st) Y K w aB K' w'):=hcall;refine h2.mono ?_;intro e w' hp;obtain⟨cv,K',rfl,r1,st1⟩:=hp;exact hn cv w' K' r1 (st1.mono (fun _ h=>.inl h))
   simp only[aZ,mF] at hop;obtain⟨⟨v1,aB⟩,hv,rfl,rfl,rfl⟩:=hop;have hcases:(∃g a b,fr.ev E f= .fn (.func g) a b)\/∃l,fr.ev E f= .fn (.yield l) [] []:=by
    unfold jO at hv;split at hv
    .rename_i g a b he;exact .inl ⟨g,a,b,he⟩
    .rename_i l he;exact .inr ⟨l,he⟩
    .simp at hv
   rcases hcases with hfn| ⟨l,hy⟩
   rotate_left
   .have hv':yt S l (c.args.toList.map (fr.ev E)) Y=some (v1,aB):=(by rw[hy] at hv;exact hv);obtain⟨hn1,fn,tmps,gF,body,Xd,arX⟩:=arE hS.code hs.ok hs.hB hs.st hv' (EX hs.ok hs.fr c.args);have hcf:a.eval f= .func (.yield (K.lp l)) #[] #[]:=(by have:=AQ hs.ok hs.fr f;rw[hy] at this;generalize a.eval f=cf at this;cases this;rfl);refine⟨rfl,hn1,fun next Q ro hn=>⟨fun _ _=>trivial,?_⟩⟩;rw[Ro _ _ hnd];have hex:(execOp a.eval o).run E.P w= .ok (.round (K.lp l) fn tmps gF body) w:=(by unfold execOp;simp only[hc];unfold resolve;simp only[hf,hcf,Deferred.ofValue,Sem.run_bind,Sem.run_pure,Result.andThen_ok,invoke];simpa using Xd);rw[hex,Oper.uponIn_round];refine⟨fun hd=>QM,?_⟩;have h2:RoundIn (oU ro) (0-1) E.P (K.lp l) fn tmps gF body w (wS E B0 Y K w v1 aB):=arX;refine h2.mono ?_;intro e w' hp;cases e with
    |returned cv=>obtain⟨K',r1,_,_,st1⟩:=hp;exact hn cv w' K' r1 (st1.mono (fun _ h=>.inr h))
    |panicked ch=>exact hp.elim|outgrown=>exact hp.elim
   obtain⟨hn1,g,first,cap,hcf,hbody,hcall⟩:=ahW hE hS.call hs.ok hs.hB hs.st hfn hv (AQ hs.ok hs.fr f) (EX hs.ok hs.fr c.args);refine⟨rfl,hn1,fun next Q ro hn=>⟨fun _ _=>trivial,?_⟩⟩;rw[Ro _ _ hnd];have hex:(execOp a.eval o).run E.P w= .ok (.enter g (first++c.args.map a.eval++cap)) w:=by unfold execOp;simp only[hc];unfold resolve;simp only[hf,hcf,Deferred.ofValue,Sem.run_bind,Sem.run_pure,Result.andThen_ok,invoke];exact Rw hE hbody _ _
   rw[hex,Oper.uponIn_enter];refine⟨fun hd=>QM,?_⟩;have h2:CallsIn (oU ro) (0-1) E.P g (first++c.args.map a.eval++cap) w (wS E B0 Y K w v1 aB):=hcall;refine h2.mono ?_;intro e w' hp;cases e with
   |returned cv=>obtain⟨K',r1,_,_,st1⟩:=hp;exact hn cv w' K' r1 (st1.mono (fun _ h=>.inr h))
   |panicked ch=>exact hp.elim|outgrown=>exact hp.elim
  .simp at hop
 .simp at hop
 .rename_i hnc hnd;simp only[aZ,mF] at hop;obtain⟨⟨v1,aB⟩,hv,rfl,rfl,rfl⟩:=hop;have hsame:=ahK hv;exact⟨rfl,by rw[hsame.1];exact iR _,hdone (aq9 hs.ok hs.hB hs.fr hst hv) hnd⟩
end
section
variable (E:Env)(S:iV)
def opsL (ops:List Oper)(base:Nat):List Nat->Fr->ah->Option (Fr×ah)
 | [],fr,Y=>some (fr,Y)|i::l,fr,Y=>(jr E S ops base i fr Y).bind fun (fr,Y)=>opsL ops base l fr Y
theorem arY (all:List Oper)(base:Nat):∀(os:List Oper)(k:Nat)(fr:Fr)(Y:ah),(∀j,os[j]? =all[k+j]?)->
 opsE E S all (base+k) os fr Y=opsL E S all base (List.range' k os.length) fr Y:=by
 intro os;induction os with
 |nil=>intro k fr Y _;rfl|cons o os ih=>
  intro k fr Y h;have h0:all[k]? =some o:=by simpa using (h 0).symm
  have ih':=fun fr Y=>ih (k+1) fr Y (fun j=>by have:=h (j+1);simpa [oV,Nat.add_comm 1 j] using this);simp only[List.length_cons,List.range'_succ,opsL,jr,h0,opsE];cases hwt:fM all fr o with
  |none=>rfl|some t=>
  simp only[Option.bind_some];split
  .cases hop:opC E S fr Y (base+k) o with
   |none=>rfl|some r=>obtain⟨v,bK,aB⟩:=r;exact ih' _ _
  .exact ih' _ _
theorem arZ (ops:Array Oper)(base:Nat)(fr:Fr)(Y:ah):opsE E S ops.toList base ops.toList fr Y=opsL E S ops.toList base (List.range ops.size) fr Y:=by have:=arY E S ops.toList base ops.toList 0 fr Y (fun j=>aD);rw[Nat.add_zero] at this;rw[this,List.range_eq_range',Array.length_toList]
end
section
variable {E:Env}{S:iV}{K K':bB}{w w':World}{Y Y':ah}{B0:Nat}{fr fr':Fr}{a:Act}{n:Nat}{ds:H8}
theorem ahZ (hf:mR K Y.top w fr a.tmps)(ops:Array Oper)(o:Oper)(hsz:Hq a.tmps.size ops.toList=true){t:Bool}(hv:fM ops.toList fr o=some t):
 Region.wanted o (yielded ops a.tmps)=t:=by
 unfold Region.wanted;unfold fM at hv;cases hg:o.guard with
 |none=>rw[hg] at hv;exact kP hv|some g=>
  obtain⟨j,want⟩:=g;rw[hg] at hv;simp only at hv⊢;cases hd:(ops.toList[j]?).bind (·.dst) with
  |none=>
   have hd':(ops[j]?).bind (·.dst)=none:=by simpa using hd
   simp only[hd,iE] at hv;simp only[yielded,hd',<-hv];rfl
  |some t=>
   have hd':(ops[j]?).bind (·.dst)=some t:=by simpa using hd
   have ht:t<a.tmps.size:=by
    cases ho:ops[j]? with
    |none=>simp[ho] at hd'|some o'=>have hm:o'∈ops.toList:=(by simpa using Array.mem_of_getElem? ho);simp only[Hq,lK] at hsz;have h1:=hsz o' hm;have h2:o'.dst=some t:=(by simpa [ho] using hd');rw[h2] at h1;simpa using h1
   have hr:=hf t;have hget:a.tmps[t]? =some (a.tmps.getD t undef):=by simp[Array.getD,ht]
   simp only[hd] at hv;simp only[yielded,hd',Option.bind_some,hget];generalize a.tmps.getD t undef=c at hr;generalize fr.tm t=x at hr hv;cases hr<;>simp only[iE,reduceCtorEq] at hv<;>first|exact hv| (rw[<-hv];rfl)
theorem ah0 (h:bH E B0 Y K w)(k:Nat):bH E B0 {Y with next:=k} K w:=⟨h.obj,h.own,h.I,h.IM,h.loop,h.glob,h.rb,h.D⟩
theorem ar0 (hS:Sound E S){st:Nat}{o:Oper}{v:V}(hop:opC E S fr Y st o=some (v,fr',Y')):fr'=fr/\Y.next<=Y'.next:=by
 unfold opC at hop;split at hop
 .split at hop
  .simp only[aZ,mF] at hop;obtain⟨⟨v1,aB⟩,hv,rfl,rfl,rfl⟩:=hop;exact⟨rfl,by rw[(ahJ hv).1];exact iR _⟩
  .split at hop
   .simp only[aZ,mF] at hop;obtain⟨⟨v1,aB⟩,hv,rfl,rfl,rfl⟩:=hop;refine⟨rfl,?_⟩;unfold qJ at hv;split at hv
    .split at hv
     .simp only[iP] at hv;obtain⟨_,_,_,_,hv⟩:=hv;rw[ahY hv];exact iR _
     .cases hv
    .cases hv
   simp only[aZ,mF] at hop;obtain⟨⟨v1,aB⟩,hv,rfl,rfl,rfl⟩:=hop;refine⟨rfl,?_⟩;unfold jO at hv;split at hv
   .split at hv
    .exact(hS.call _ _ _ _ _ _ hv).1
    .simp only[iP] at hv;obtain⟨_,_,_,_,hv⟩:=hv;split at hv
     .simp only[iE,mF] at hv;rw[hv.2];exact iR _
     .simp at hv
   .exact arO hS.code hv
   .simp at hv
  .simp at hop
 .simp at hop
 .simp only[aZ,mF] at hop;obtain⟨⟨v1,aB⟩,hv,rfl,rfl,rfl⟩:=hop;exact⟨rfl,by rw[(ahK hv).1];exact iR _⟩
theorem ME (hS:Sound E S)(ops:List Oper)(base:Nat):∀(l:List Nat)(fr:Fr)(Y:ah),opsL E S ops base l fr Y=some (fr',Y')->Y.next<=Y'.next:=by
 intro l;induction l with
 |nil=>intro fr Y h;simp only[opsL,iE,mF] at h;rw[h.2];exact iR _|cons i l ih=>
  intro fr Y h;simp only[opsL,iP] at h;obtain⟨⟨bK,aB⟩,hs,h⟩:=h;refine eX ?_ (ih _ _ h);unfold jr at hs;split at hs
  .simp only[iE,mF] at hs;rw[hs.2];exact iR _
  .simp only[iP] at hs;obtain⟨t,_,hs⟩:=hs;split at hs
   .simp only[aZ,mF] at hs;obtain⟨⟨v,jf,dn⟩,hop,rfl,rfl⟩:=hs;exact(ar0 hS hop).2
   .simp only[iE,mF] at hs;rw[hs.2];exact iR _
theorem ah1 (hE:o7 E)(hS:Sound E S)(ops:Array Oper)(base:Nat)(hops:Hq n ops.toList=true)(ro:Option Nat)(Q:Exit->Act->World->Prop):
 ∀(l:List Nat)(fr:Fr)(Y:ah)(K:bB)(w:World)(a:Act),opsL E S ops.toList base l fr Y=some (fr',Y')->l.Nodup->(∀i∈l,i<ops.size)->St E B0 Y K w fr a n ds->base+ops.size<=Y.next->(∀i∈l,¬K.A (base+i))->
  (∀a' K' w',St E B0 Y' K' w' fr' a' n ds->Step E B0 (fun s=>(base<=s/\s<base+ops.size)\/newer Y Y' s) Y K w Y' K' w'->Q .normal a' w')->wpOpsIn (oU ro) 0 E.P ops Q l a w:=by
 intro l;induction l with
 |nil=>intro fr Y K w a hl _ _ hs _ _ hq;simp only[opsL,iE,mF] at hl;obtain⟨rfl,rfl⟩:=hl;exact hq a K w hs (.refl hs.ok)
 |cons i l ih=>
  intro fr Y K w a hl hnd hlt hs hbase Xg hq;simp only[opsL,iP] at hl;obtain⟨⟨bK,aB⟩,hstep,hl⟩:=hl;have hil:i∉l:=(Az.1 hnd).1;have hi:i<ops.size:=hlt i aD;have hoi:ops[i]? =some ops[i]:=by simp[hi]
  have ar1:ops.toList[i]? =some ops[i]:=by simpa using hoi
  simp only[jr,ar1,iP] at hstep;obtain⟨t,hwv,hstep⟩:=hstep;have hw:=ahZ hs.fr ops ops[i] (by rw[hs.sz];exact hops) hwv;have hdst:∀t,ops[i].dst=some t->t<n:=by intro t ht;simp only[Hq,lK] at hops;have:=hops ops[i] aD;rw[ht] at this;simpa using this
  unfold wpOpsIn;simp only[hoi,hw];split at hstep
  .rename_i hwt;simp only[aZ,mF] at hstep;obtain⟨⟨v,jf,dn⟩,hop,rfl,rfl⟩:=hstep;obtain⟨rfl,hnx,hwp⟩:=arW hE hS hs (Xg i aD) hop;dsimp only at hl;simp only[hwt,if_true];have hA1:∀{K1:bB}{w1:World},Step E B0 (fun s=>s=base+i\/newer Y dn s) Y K w dn K1 w1->(∀s,K1.A s->s<dn.next)/\∀j∈l,¬K1.A (base+j):=by
    intro K1 w1 st;refine⟨fun s hsA=>?_,fun j hj ar2=>?_⟩
    .rcases st.A s hsA with h1|h1|h1
     .have:=hs.st s h1;omega
     .omega
     .exact h1.2
    .have hji:j≠i:=fun e=>hil (e▸hj);rcases st.A _ ar2 with h1|h1|h1
     .exact Xg j Ev h1
     .omega
     .have:=hlt j Ev;have:=h1.1;omega
   refine hwp _ _ ro (fun c w1 K1 hr st=>?_)
   .obtain⟨hA2,hA3⟩:=hA1 st;have hs1:St E B0 dn K1 w1 (jf.put ops[i].dst v) (a.put ops[i].dst c) n ds:=hs.put st hr hdst hA2;refine(ih _ _ K1 w1 _ hl (Az.1 hnd).2 (fun j hj=>hlt j Ev) hs1 RS hA3) (fun a' K' w' hs' st'=>hq a' K' w' hs' ?_);refine(st.mono ?_).trans (st'.mono ?_)
    .intro s h1;rcases h1 with h1|h1
     .exact .inl ⟨RS,RS⟩
     .exact .inr ⟨h1.1,nC h1.2 (ME hS _ _ _ _ _ hl)⟩
    .intro s h1;rcases h1 with h1|h1
     .exact .inl h1
     .exact .inr ⟨eX hnx h1.1,h1.2⟩
  .rename_i hwt;simp only[iE,mF] at hstep;obtain⟨rfl,rfl⟩:=hstep;have hs1:St E B0 Y K w (fr.put ops[i].dst aP) (a.put ops[i].dst undef) n ds:=hs.put (new:=fun _=>False) (.refl hs.ok) (.undef _ _ _) hdst hs.st;have:=ih _ _ K w _ hl (Az.1 hnd).2 (fun j hj=>hlt j Ev) hs1 hbase (fun j hj=>Xg j Ev);simp only[hwt];exact⟨fun _ _=>trivial,this hq⟩
end
end aR
end
