import Derived.ControlIn
import Derived.RangeFuncLeaves
import Derived.RangeFuncRecord
import Derived.Scope
import Derived.Test.YteniejlbjfigdaaGreatDoorF502
set_option linter.all false
section
namespace aR
open Go Go.RowKit
section
variable {E:Env}{B0:Nat}{Z:ah}{K:bq}{w:World}{new:Nat->Prop}{T:Nat->Nat}
def vk (E:Env)(B0:Nat)(new:Nat->Prop)(Z:ah)(K:bq)(w:World)(s:Sem Next)(v:V)(Z':ah):Prop:=
 ∃nx c w' K',s.run E.P w= .ok nx w'/\(nx= .value c\/(nx= .skip/\c=undef))/\Rel K' Z'.top w' v c/\Step E B0 new Z K w Z' K' w'
theorem vk.tT {s:Sem Value}{v:V}{Z':ah}(h:Done E B0 new Z K w s v Z'):vk E B0 new Z K w (do pure (.value (<-s))) v Z':=by obtain⟨c,w',K',h1,h2,h3⟩:=h;exact⟨.value c,c,w',K',by simp[h1],.inl rfl,h2,h3⟩
theorem vk.jr (h:bG E B0 Z K w){s:Sem Value}{v:V}(hs:∃c,s.run E.P w= .ok c w/\Rel K Z.top w v c):vk E B0 new Z K w (do pure (.value (<-s))) v Z:=
 .tT (.jr h hs)
theorem vk.Vt {s:Sem Unit}{Z':ah}{K':bq}{w':World}(h:s.run E.P w= .ok () w')(hs:Step E B0 new Z K w Z' K' w'):vk E B0 new Z K w (do s;pure .skip) aJ Z':=
 ⟨.skip,undef,w',K',Ea,.inr ⟨rfl,rfl⟩,.undef _ _ _,hs⟩
theorem Ev {fr:Fr}{a:Act}(h:bG E B0 Z K w)(hf:l6 K Z.top w fr a.tmps)(xs:Array Operand):(xs.toList.map (fr.ev E)).length=(xs.map a.eval).size/\∀i,i< (xs.toList.map (fr.ev E)).length->Rel K Z.top w ((xs.toList.map (fr.ev E)).getD i aJ) ((xs.map a.eval).getD i undef):=by
 refine⟨aB,fun i hi=>?_⟩;have hi':i<xs.size:=jH
 have e1:(xs.toList.map (fr.ev E)).getD i aJ=fr.ev E xs[i]:=KN
 have e2:(xs.map a.eval).getD i undef=a.eval xs[i]:=by simp[Array.getD,hi']
 rw[e1,e2];exact Al h hf _
theorem aer {v:V}{c:Value}{b:Bool}(hr:Rel K T w v c)(h:xO v=some b):c= .bool b:=by
 cases v<;>simp only[xO,reduceCtorEq,iE] at h;subst h;cases hr;rfl
theorem aes (h:bG E B0 Z K w)(hB:B0<=w.heap.size){st:Nat}(hst:¬K.A st)(loc:Loc)(t:TypeId){x:V}{cx:Value}(hx:Rel K Z.top w x cx)(hraw:fC x=true):
 Done E B0 (· =st) Z K w (do pure (.pointer (some (<-newVar t cx)))) (.ref loc st 0) (Z.setObj loc st (.cells x.cells)):=by
 obtain⟨h1,h2⟩:=BQ hx hraw;have hstep:=Step.Qi h hB hst loc (.cells x.cells) (.cells cx.cells t) cx.cells.size (fun K' e' _ hb' hs'=>
  ⟨fun h0=>by rw[hs',<-h1,h0];rfl,fun _=>⟨Qd,_,t,by rw[hb'];exact heap_alloc_new w _,hs'.symm,by rw[h1];exact mF _,fun i hi=>(h2 i hi).ext e'⟩⟩)
 refine⟨.pointer (some (at_ w.heap.size 0)),_,_,by simp[newVar,newRow],?_,hstep⟩;have key:Rel (K.mW st w.heap.size cx.cells.size loc) (Z.setObj loc st (.cells x.cells)).top (w.alloc (.cells cx.cells t)) (.ref loc st 0) (.pointer (some (at_ ((K.mW st w.heap.size cx.cells.size loc).blk st) 0))):=.ref loc st 0 (Or.inr rfl);have hblk:(K.mW st w.heap.size cx.cells.size loc).blk st=w.heap.size:=upd_same _ _ _;rw[hblk] at key;exact key
theorem am6 (h:bG E B0 Z K w)(hB:B0<=w.heap.size){st:Nat}(t:TypeId){x:V}{cx:Value}(hx:Rel K Z.top w x cx)(hraw:fC x=true):
 Done E B0 (· =st) Z K w (do pure (.pointer (some (<-newVar t cx)))) (.aX x.cells 0) Z:=by
 obtain⟨h1,h2⟩:=BQ hx hraw;have hst:=Step.adO (new:=(· =st)) h hB cx.cells t (0,0);refine⟨.pointer (some (at_ w.heap.size 0)),_,_,by simp[newVar,newRow],?_,hst⟩;have hcell:∀j,j<cx.cells.size->(w.alloc (.cells cx.cells t)).cell? (at_ w.heap.size (0+j))=some (cx.cells.getD j undef):=fun j hj=>by rw[nX];exact K6 hj
 exact .aX x.cells 0 w.heap.size 0 (fun j=>cx.cells.getD j undef) (fun j hj=>⟨hcell j RS,.inr ⟨rfl,RS⟩⟩) (fun j hj=>(h2 j hj).ext hst.ext)
theorem am7 (h:bG E B0 Z K w)(hB:B0<=w.heap.size){st:Nat}(hst:¬K.A st)(loc:Loc)(t:TypeId):
 Done E B0 (· =st) Z K w (Instr.makeMap t none) (.dQ loc st) (Z.setObj loc st (.map [] [])):=by
 have hstep:=Step.Qi h hB hst loc (.map [] []) (.map #[] 0) 0 (fun K' e' _ hb' hs'=>
  ⟨Qd, #[],0,by rw[hb'];exact heap_alloc_new w _,rfl,rfl,fun i hi=>absurd hi (fZ i),fun i hi=>absurd hi (fZ i)⟩)
 refine⟨.map (some w.heap.size),_,_,by simp[Instr.makeMap],?_,hstep⟩;have key:Rel (K.mW st w.heap.size 0 loc) (Z.setObj loc st (.map [] [])).top (w.alloc (.map #[] 0)) (.dQ loc st) (.map (some ((K.mW st w.heap.size 0 loc).blk st))):=.dQ loc st (Or.inr rfl);have hblk:(K.mW st w.heap.size 0 loc).blk st=w.heap.size:=upd_same _ _ _;rw[hblk] at key;exact key
def bq.freeze (K:bq)(b n:Nat):bq:={K with I:=fun b' o=>K.I b' o\/(b'=b/\o<n),C:=upd K.C b none}
theorem aeu (K:bq)(T:Nat->Nat)(w:World)(b n:Nat):Ext K T w (K.freeze b n) T w:=
 ⟨fun _ h=>⟨h,rfl,rfl,rfl⟩,fun _ _=>.inl ⟨rfl,rfl,rfl,rfl⟩,fun _ _ h=>⟨.inl h,rfl⟩,fun _ h=>⟨h,rfl⟩⟩
theorem Step.freeze (h:bG E B0 Z K w){loc:Loc}{s:Nat}{cs:List V}(hs:Z.obj loc=some (s,.cells cs))(hne:cs≠[]){n:Nat}(hn:∀i,i<n->∃v,w.cell? (at_ (K.blk s) i)=some v):
 Step E B0 new Z K w (Z.j3 loc) (K.freeze (K.blk s) n) w:=by
 obtain⟨a1,a2,a3⟩:=h.obj loc s _ hs;obtain⟨b1,_⟩:=a2.2 hne;have gJ:K.C (K.blk s)=some (.obj loc):=a3 (by cases cs with|nil=>exact absurd rfl hne|cons _ _=>trivial);have e:=aeu K Z.top w (K.blk s) n;have hne':∀b r,K.C b=some r->r≠ .obj loc->b≠K.blk s:=fun b r h1 h2 e=>by rw[e,gJ] at h1;exact h2 (jW h1).symm
 refine⟨⟨fun loc' s' ob hs'=>?_,fun s' hA hlt=>?_,fun b o hi=>?_,fun b hi=>?_,fun l r hl=>?_,fun g cs hg=>(h.glob g cs hg).ext e,fun b r hr=>?_,h.D⟩,e,.refl _ _,fun _ h=>h,fun _ h=>.inl h,fun b o hi=>?_,fun _ h=>.inl h⟩
 .by_cases hl:loc'=loc
  .subst hl;simp[ah.j3,upd_same] at hs'
  .simp only[ah.j3,upd_ne _ _ hl] at hs';obtain⟨g1,g2,g3⟩:=h.obj loc' s' ob hs';refine⟨g1,g2.ext e g1 (fun _=>rfl),fun hr=>?_⟩;have h1:=g3 hr;have h2:K.blk s'≠K.blk s:=hne' _ _ h1 (fun e=>hl (by cases e;rfl));show upd K.C (K.blk s) none (K.blk s')=_;rw[upd_ne _ _ h2];exact h1
 .obtain⟨g1,g2,g3⟩:=h.own s' hA hlt;have h2:K.ob s'≠K.blk s:=hne' _ _ g2 (fun e=>by cases e);refine⟨g1,?_,fun o h3 h4=>?_⟩
  .show upd K.C (K.blk s) none (K.ob s')=_;rw[upd_ne _ _ h2];exact g2
  .obtain⟨c1,c2,c3⟩:=g3 o h3 h4;exact⟨fun hi=>hi.elim c1 (fun hi=>h2 hi.1),c2,c3⟩
 .have hk:∀loc',(K.freeze (K.blk s) n).C b≠some (.obj loc')\/K.C b=some (.obj loc'):=fun loc'=>by
   by_cases hb:b=K.blk s
   .left;show upd K.C (K.blk s) none b≠_;rw[hb,upd_same];simp
   .by_cases hq:K.C b=some (.obj loc')
    .exact .inr hq
    .left;show upd K.C (K.blk s) none b≠_;rw[upd_ne _ _ hb];exact hq
  rcases hi with hi| ⟨rfl,hi⟩
  .obtain⟨g1,g2⟩:=h.I b o hi;exact⟨g1,fun loc'=>(hk loc').resolve_right (g2 loc')⟩
  .refine⟨hn o hi,fun loc'=>?_⟩;show upd K.C (K.blk s) none (K.blk s)≠_;rw[upd_same];simp
 .obtain⟨g1,g2⟩:=h.IM b hi;refine⟨g1,fun loc'=>?_⟩;show upd K.C (K.blk s) none b≠_;by_cases hb:b=K.blk s
  .rw[hb,upd_same];simp
  .rw[upd_ne _ _ hb];exact g2 loc'
 .obtain⟨g1,g2⟩:=h.loop l r hl;have h2:K.lp l≠K.blk s:=hne' _ _ g2.2.1 (fun e=>by cases e);exact⟨g1,g2.ext e g1 rfl (upd_ne _ _ h2)⟩
 .have hr':upd K.C (K.blk s) none b=some r:=hr;by_cases hb:b=K.blk s
  .rw[hb,upd_same] at hr';cases hr'
  .rw[upd_ne _ _ hb] at hr';exact h.rb b r hr'
 .rcases hi with hi| ⟨rfl,_⟩
  .exact .inl hi
  .exact .inr b1
theorem am8 (h:bG E B0 Z K w){x v:V}{c:Value}{Z':ah}(hr:Rel K Z.top w x c)(hv:xP Z x=some (v,Z')):∃K',Rel K' Z'.top w v c/\Step E B0 new Z K w Z' K' w:=by
 unfold xP at hv;split at hv
 .rename_i loc s off len cap bD ag;simp only[iR] at hv;obtain⟨cs,hcs,hv⟩:=hv;split at hv
  .rename_i hc;obtain⟨hlen,hag⟩:=hc;simp only[iE,aS] at hv;obtain⟨rfl,rfl⟩:=hv;have Lg:ag=false->bD=1:=fun e=>by simp[e] at hag;exact hag.1
   have Lh:ag=false->bY (((cs.drop off).take (len*bD)).map gu)=true:=fun e=>by simp only[e,Bool.false_or,aZ] at hag;exact hag.2
   cases hr with
   |om _ _ _ _ hA=>exact⟨K,.gD .sh none (fun _=>rfl) trivial,.j3 h loc⟩
   |aU _ _ _ _ _ _ _ fq hA hcp hle hsz=>
    by_cases hne:cs=[]
    .subst hne;have h0:len*bD=0:=(by simp at hlen;omega);refine⟨K,?_,.j3 h loc⟩;exact Gy (w:=w) (val:=fun _=>undef) Lg (by rw[h0];exact qA _) Lh (fun j hj=>RS) (fun j hj=>RS) RS trivial
    .obtain⟨g1,_,_⟩:=h.wG hcs;obtain⟨a1,a2,a3⟩:=h.obj _ _ _ g1;obtain⟨b1,vals,t,b2,b3,b4,b5⟩:=a2.2 hne;have e6:∀i,i<vals.size->w.cell? (at_ (K.blk s) i)=some (vals.getD i undef):=fun i hi=>by simp[World.cell?,b2,Array.getD,hi]
     refine⟨K.freeze (K.blk s) vals.size,?_,.freeze h g1 hne (fun i hi=>⟨_,e6 i hi⟩)⟩;have hl':((cs.drop off).take (len*bD)).length=len*bD:=dP;refine Gy (w:=w) (val:=fun i=>vals.getD (off+i) undef) Lg dP Lh (fun j hj=>⟨e6 _ RS,.inr ⟨rfl,RS⟩⟩) (fun j hj=>?_) RS trivial;have hj':j< ((cs.drop off).take (len*bD)).length:=RS;have e1:(((cs.drop off).take (len*bD)).map gu).getD j aJ=gu (cs.getD (off+j) aJ):=(by rw[<-tQ,<-rz (cs.drop off) hj,kD (by simpa using hj'),kD hj'];simp);rw[e1];exact(GI (b5 _ RS)).ext (aeu _ _ _ _ _)
  .simp at hv
 .rename_i cc l;simp only[iE,aS] at hv;obtain⟨rfl,rfl⟩:=hv;exact⟨K,GI hr,.refl h⟩
 .simp only[iE,aS] at hv;obtain⟨rfl,rfl⟩:=hv;exact⟨K,hr,.refl h⟩
theorem am9 {t xt:TypeId}{ok:Bool}{x v:V}{cx:Value}(hx:Rel K Z.top w x cx)(hv:UN E.P t ok x=some v):
 ∃c,(Instr.typeAssert cx xt t ok).run E.P w= .ok c w/\Rel K Z.top w v c:=by
 unfold UN at hv;have two:∀{a b:V}{ca cb:Value},Rel K Z.top w a ca->Rel K Z.top w b cb->Rel K Z.top w (.bK [a,b]) (.tuple #[ca,cb]):=fun {a b ca cb} ha hb=>.bK _ _ rfl (fun i hi=>by
  match i,hi with
  |0,_=>exact ha|1,_=>exact hb)
 split at hv
 .cases hv
 .cases hv
 .rename_i d hni hd;have hu:(underlying t).run E.P w= .ok d w:=run_underlying hd w;split at hv
  .rename_i u y;cases hx with
   |iface _ _ c hr=>
   split at hv
   .rename_i hut;subst hut;simp only[iE] at hv;cases ok with
    |true=>simp only[if_true] at hv;subst hv;refine⟨_,?_,two hr (.bool true)⟩;cases d<;>first| (exact absurd rfl (hni _))|simp[Instr.typeAssert,hu]
    |false=>simp only[bZ,if_false] at hv;subst hv;refine⟨_,?_,hr⟩;cases d<;>first| (exact absurd rfl (hni _))|simp[Instr.typeAssert,hu]
   .rename_i hut;split at hv
    .rename_i hok;subst hok;simp only[aW] at hv;obtain⟨z,hz,rfl⟩:=hv;obtain⟨c,h1,h2⟩:=BR (w:=w) hz;refine⟨_,?_,two (h2 _ _) (.bool false)⟩;cases d<;>first| (exact absurd rfl (hni _))|simp[Instr.typeAssert,hu,hut,h1]
    .cases hv
  .cases hx;split at hv
   .rename_i hok;subst hok;simp only[aW] at hv;obtain⟨z,hz,rfl⟩:=hv;obtain⟨c,h1,h2⟩:=BR (w:=w) hz;refine⟨_,?_,two (h2 _ _) (.bool false)⟩;cases d<;>first| (exact absurd rfl (hni _))|simp[Instr.typeAssert,hu,h1]
   .cases hv
  .cases hv
theorem ana (h:bG E B0 Z K w)(hB:B0<=w.heap.size){fr:Fr}{a:Act}(hf:l6 K Z.top w fr a.tmps){st:Nat}(hst:¬K.A st){o:Oper}{v:V}{Z':ah}(hv:dh E fr Z st o=some (v,Z')):
 vk E B0 (· =st) Z K w (execOp a.eval o) v Z':=by
 have ev:=fun x=>Al h hf x;unfold dh at hv;unfold execOp;split at hv
 .rename_i x hop;split at hv
  .obtain⟨K',r1,r2⟩:=am8 (new:=(· =st)) h (ev x) hv;simp only[hop];exact⟨.value (a.eval x),a.eval x,w,K',rfl,.inl rfl,r1,r2⟩
  simp only[iE,aS] at hv;obtain⟨rfl,rfl⟩:=hv;simp only[hop];exact⟨.value (a.eval x),a.eval x,w,K,rfl,.inl rfl,ev x,.refl h⟩
 .rename_i x hop;simp only[iE,aS] at hv;obtain⟨rfl,rfl⟩:=hv;simp only[hop];exact⟨.value (a.eval x),a.eval x,w,K,rfl,.inl rfl,ev x,.refl h⟩
 .rename_i c x y hop;simp only[aW,aS] at hv;obtain⟨b,hb,rfl,rfl⟩:=hv;simp only[hop];have hc:=aer (ev c) hb;refine⟨.value (if b then a.eval x else a.eval y),_,w,K,by simp[asBool,hc],.inl rfl,?_,.refl h⟩;cases b
  .exact ev y
  .exact ev x
 .rename_i t hop;simp only[iR] at hv;obtain⟨loc,_,z,hz,hv⟩:=hv;split at hv
  .simp only[iE,aS] at hv;obtain⟨rfl,rfl⟩:=hv;simp only[hop];obtain⟨cz,hz1,hz2⟩:=BR w hz;obtain⟨c,w',K',r1,r2,r3⟩:=aes h hB hst loc t (hz2 K Z.top) (K7 hz);refine .tT ⟨c,w',K',?_,r2,r3⟩;simp only[Instr.alloc,Sem.run_bind,hz1,Result.andThen_ok];exact r1
  .simp at hv
 .rename_i t x hop;split at hv
  .split at hv
   .rename_i hc;simp only[iE,aS] at hv;obtain⟨rfl,rfl⟩:=hv;simp only[hop];exact .tT (am6 h hB t (Vm (ev x)) (amE hc.2))
   .simp at hv
  simp only[iR] at hv;obtain⟨loc,_,hv⟩:=hv;split at hv
  .rename_i hc;simp only[iE,aS] at hv;obtain⟨rfl,rfl⟩:=hv;simp only[hop];exact .tT (aes h hB hst loc t (ev x) hc.2)
  .simp at hv
 .rename_i t parts hop;simp only[iR,aW,aS] at hv;obtain⟨pl,hpl,z,hz,cs,hcs,rfl,rfl⟩:=hv;simp only[hop];refine .jr h (amD hpl hz ?_ (K7 hz) hcs);rw[Array.toList_map];exact Qn h hf _
 .rename_i t len parts hop;split at hv
  .simp only[hop];refine .tT (amY h hB hst ?_ hv);rw[Array.toList_map];exact Qn h hf _
  .simp only[aW,aS] at hv;obtain⟨v',hv',rfl,rfl⟩:=hv;simp only[hop];refine .tT (amG h hB ?_ hv');rw[Array.toList_map];exact Qn h hf _
 .rename_i t x hop;simp only[hop];have hx:=ev x;generalize fr.ev E x=xv at hv hx;cases xv with
  |ref loc s off=>simp only[iR,aW,aS] at hv;obtain⟨cs,h1,v',h2,rfl,rfl⟩:=hv;exact .jr h (Vg h hx (by simp[h1,h2]))
  |aX cs off=>simp only[aW,aS] at hv;obtain⟨v',h2,rfl,rfl⟩:=hv;exact .jr h (Vg h hx h2)
  |_=>simp at hv
 .rename_i t p x hop;simp only[hop];have hp:=ev p;have hx:=ev x;generalize fr.ev E p=pv at hv hp;cases pv with
  |ref loc s off=>
   simp only[iR] at hv;obtain⟨cs,hcs,hv⟩:=hv;split at hv
   .rename_i hc;simp only[iE,aS] at hv;obtain⟨rfl,rfl⟩:=hv;obtain⟨w',r1,r2⟩:=amw (new:=(· =st)) h hB hp hx hcs hc.1 hc.2.1 hc.2.2;exact .Vt r1 r2
   .simp at hv
  |_=>simp at hv
 .rename_i x hop;simp only[hop];have hx:=ev x;generalize fr.ev E x=xv at hv hx;cases xv with
  |ref loc s off=>simp only[iE,aS] at hv;obtain⟨rfl,rfl⟩:=hv;generalize a.eval x=cx at hx;cases hx with|ref _ _ _ hA=>exact⟨_,_,w,K,rfl,.inl rfl,.ref loc s off hA,.refl h⟩
  |aX cs off=>simp only[iE,aS] at hv;obtain⟨rfl,rfl⟩:=hv;generalize a.eval x=cx at hx;have hx':=hx;cases hx with|aX _ _ b o val h1 h2=>exact⟨_,_,w,K,rfl,.inl rfl,hx',.refl h⟩
  |fn f g l=>
   cases f with
   |func f=>simp only[iE,aS] at hv;obtain⟨rfl,rfl⟩:=hv;generalize a.eval x=cx at hx;have hx':=hx;cases hx with|fn _ _ _ kI bv h1 h2 h3 h4=>exact⟨_,_,w,K,rfl,.inl rfl,hx',.refl h⟩
   |_=>simp at hv
  |_=>simp at hv
 .rename_i op t x y _ hop;simp only[aW,aS] at hv;obtain⟨v',hv',rfl,rfl⟩:=hv;simp only[hop];exact .jr h (amo w x y (ev x) (ev y) hv')
 .rename_i op t x hop;simp only[aW,aS] at hv;obtain⟨v',hv',rfl,rfl⟩:=hv;simp only[hop];exact .jr h (amq w (ev x) hv')
 .rename_i s d x hop;simp only[aW,aS] at hv;obtain⟨v',hv',rfl,rfl⟩:=hv;simp only[hop];exact .tT (amt h hB (ev x) hv')
 .rename_i t x hop;simp only[iR] at hv;obtain⟨⟨n,e⟩,hn,hv⟩:=hv;have hu:=adV hn;simp only[hop];have hx:=ev x;generalize fr.ev E x=xv at hv hx;generalize a.eval x=cx at hx;cases xv with
  |aU loc s off len cap bD ag=>
   simp only at hv;split at hv
   .rename_i hle;simp only[iE,aS] at hv;obtain⟨rfl,rfl⟩:=hv;cases hx with
    |om=>omega|aU _ _ _ _ _ _ _ fq hA hcc hlc hsz=>have:¬(len<n):=RS;exact .jr h ⟨_,by simp[Instr.arrayAt,run_underlying hu,this],.ref loc s off hA⟩
   .simp at hv
  |ak c l=>
   simp only at hv;split at hv
   .rename_i hc;obtain⟨c1,c2,c3⟩:=hc;simp only[iE,aS] at hv;obtain⟨rfl,rfl⟩:=hv;cases hx with
    |gD=>simp at c2;omega|ak _ _ b o m cap val hle hn hcell hrel hcap=>
     have hlt:¬(l.length<n):=RS;have hone:∀i,i<l.length->(l.getD i aJ).cells=[l.getD i aJ]:=fun i hi=>by simp only[bY,kU] at c3;have:=c3 _ (lX hi);rw[kD hi];revert this;cases l[i]<;>simp[oneCell,V.cells]
     have hm:m=1:=(by have h0:0<l.length:=RS;rw[<-hn 0 h0,hone 0 h0];rfl);subst hm;refine .jr h ⟨.pointer (some (at_ b (o+0))),by simp[Instr.arrayAt,run_underlying hu,hlt],.aX (l.take n) 0 b o (fun j=>val j 0) (fun j hj=>?_) (fun j hj=>?_)⟩
     .have hj':j<l.length:=(by rw[jV] at hj;omega);have:=hcell j 0 hj' RS;simpa using this
     .have hj':j<l.length:=(by rw[jV] at hj;omega);have hjn:j<n:=(by rw[jV] at hj;omega);have:=hrel j 0 hj' RS;rw[hone j hj'] at this;have e:(l.take n).getD j aJ=l.getD j aJ:=(by rw[mH,mH,List.getElem?_take_of_lt hjn]);rw[e];simpa using this
   .simp at hv
  |_=>simp at hv
 .rename_i t x hop;simp only[hop];split at hv
  .simp at hv
  .rename_i d hu hd;simp only[iE,aS] at hv;obtain⟨rfl,rfl⟩:=hv;refine .jr h ⟨.iface t (a.eval x),?_,.iface t _ _ (ev x)⟩;simp only[Instr.makeInterface,Sem.run_bind,run_underlying hd,Result.andThen_ok];rfl
  .simp at hv
 .rename_i f p q hop;simp only[iE,aS] at hv;obtain⟨rfl,rfl⟩:=hv;simp only[hop];obtain⟨h1,h2⟩:=Ev h hf p;obtain⟨h3,h4⟩:=Ev h hf q;exact .jr h ⟨_,rfl,.fn f _ _ _ _ h1 h3 h2 h4⟩
 .rename_i t hop;simp only[aW,aS] at hv;obtain⟨loc,_,rfl,rfl⟩:=hv;simp only[hop];exact .tT (am7 h hB hst loc t)
 .rename_i t l c hop;simp only[hop];exact .tT (amX h hB hst (ev l) (ev c) hv)
 .rename_i t x lo hi mx hop;simp only[aW,aS] at hv;obtain⟨v',hv',rfl,rfl⟩:=hv;simp only[hop];have opt:∀(p:Option Operand) v,kP E fr p=some v->∃c,p.map a.eval=some c/\Rel K Z.top w v c:=by
   intro p v hp;cases p with
   |none=>simp[kP] at hp|some p=>simp only[kP,iE] at hp;subst hp;exact⟨_,rfl,ev p⟩
  have Vu:∀(p:Option Operand),kP E fr p=none->p.map a.eval=none:=by
   intro p hp;cases p with
   |none=>rfl|some p=>simp[kP] at hp
  exact .jr h (amr w rfl h (ev x) (opt lo) (Vu lo) (opt hi) (Vu hi) (opt mx) (Vu mx) hv')
 .rename_i t x f hop;simp only[iR] at hv;obtain⟨⟨o',u⟩,hfi,hv⟩:=hv;simp only[hop];have hx:=ev x;generalize fr.ev E x=xv at hv hx;cases xv with
  |ref loc s off=>simp only[iE,aS] at hv;obtain⟨rfl,rfl⟩:=hv;exact .jr h (ad3 hx hfi rfl)
  |aX cs off=>simp only[iE,aS] at hv;obtain⟨rfl,rfl⟩:=hv;exact .jr h (ad3 hx hfi rfl)
  |_=>simp at hv
 .rename_i t x f hop;simp only[iR] at hv;obtain⟨⟨o',u⟩,hfi,hv⟩:=hv;simp only[hop];have hx:=ev x;generalize fr.ev E x=xv at hv hx;generalize a.eval x=cx at hx;cases xv with
  |agg cs=>
   simp only[aW,aS] at hv;obtain⟨v',hv',rfl,rfl⟩:=hv;cases hx with|agg _ vs hl hr=>
   obtain⟨fs,g,n,hu,hg,rfl,rfl,hn⟩:=adX hfi;obtain⟨c,r1,r2⟩:=Gw (P:=E.P) (w:=w) hl hr hv';exact .jr h ⟨c,by simp[Instr.field,run_underlying hu,hg,asAgg,r1],r2⟩
  |_=>simp at hv
 .rename_i t x i hop;simp only[aW,aS] at hv;obtain⟨v',hv',rfl,rfl⟩:=hv;simp only[hop];exact .jr h (amu (ev x) (ev i) hv')
 .rename_i t x i hop;simp only[aW,aS] at hv;obtain⟨v',hv',rfl,rfl⟩:=hv;simp only[hop];exact .jr h (amv (ev x) (ev i) hv')
 .rename_i t x i ok hop;simp only[aW,aS] at hv;obtain⟨v',hv',rfl,rfl⟩:=hv;simp only[hop];exact .jr h (amA h (ev x) (ev i) hv')
 .rename_i t m k x hop;simp only[aW,aS] at hv;obtain⟨Z1,hv',rfl,rfl⟩:=hv;simp only[hop];obtain⟨w',r1,r2,_⟩:=ad8 (new:=(· =st)) h hB (ev m) (ev k) (ev x) hv';exact .Vt r1 r2
 .rename_i t m k x hop;simp only[aW,aS] at hv;obtain⟨Z1,hv',rfl,rfl⟩:=hv;simp only[hop];obtain⟨w',r1,r2,_⟩:=ad8 (new:=(· =st)) h hB (ev m) (ev k) (ev x) hv';exact .Vt r1 r2
 .rename_i x i hop;simp only[hop];have hx:=ev x;generalize fr.ev E x=xv at hv hx;generalize a.eval x=cx at hx;cases xv with
  |bK vs=>
   simp only[aW,aS] at hv;obtain⟨v',hv',rfl,rfl⟩:=hv;cases hx with|bK _ aev hl hr=>
   have hi:i<vs.length:=(qx.1 hv').1;have hi':i<aev.size:=RS
   refine .jr h ⟨aev[i],by simp[Instr.extract,hi'],?_⟩;have:=hr i hi;rw[kD hi,Gv hi'] at this;have e:vs[i]=v':=(qx.1 hv').2;rw[<-e];exact this
  |_=>simp at hv
 .rename_i x xt t ok hop;simp only[aW,aS] at hv;obtain⟨v',hv',rfl,rfl⟩:=hv;simp only[hop];exact .jr h (am9 (ev x) hv')
 .simp at hv
end
section
variable {E:Env}{B0:Nat}{Z:ah}{K:bq}{w:World}{new:Nat->Prop}{T:Nat->Nat}
def RelA (K:bq)(T:Nat->Nat)(w:World)(l:List V)(cl:Array Value):Prop:=l.length=cl.size/\∀i,i<l.length->Rel K T w (l.getD i aJ) (cl.getD i undef)
theorem Vv {x:V}{cl:Array Value}(h:RelA K T w [x] cl):∃c,cl= #[c]/\Rel K T w x c:=by
 obtain⟨h1,h2⟩:=h;have hs:cl.size=1:=by simpa using h1.symm
 refine⟨cl[0],?_,?_⟩
 .apply Array.ext
  .simpa using hs
  .intro i h1 h2;obtain rfl:i=0:=RS
   rfl
 .have:=h2 0 aB
  rwa[Gv RS] at this
theorem aew {x y:V}{cl:Array Value}(h:RelA K T w [x,y] cl):∃c d,cl= #[c,d]/\Rel K T w x c/\Rel K T w y d:=by
 obtain⟨h1,h2⟩:=h;have hs:cl.size=2:=by simpa using h1.symm
 refine⟨cl[0],cl[1],?_,?_,?_⟩
 .apply Array.ext
  .simpa using hs
  .intro i h1 h2;have:i=0\/i=1:=RS
   rcases this with rfl|rfl<;>rfl
 .have:=h2 0 aB
  rwa[Gv RS] at this
 .have:=h2 1 aB
  rwa[Gv RS] at this
theorem aex {x:V}{l:List V}{cl:Array Value}(h:RelA K T w (x::l) cl):∃c cs,cl.toList=c::cs/\Rel K T w x c/\l.length=cs.length/\∀i,i<l.length->Rel K T w (l.getD i aJ) (cs.getD i undef):=by
 obtain⟨h1,h2⟩:=h;cases hc:cl.toList with
 |nil=>
  have:cl.size=0:=by rw[<-Array.length_toList,hc];rfl
  simp[this] at h1
 |cons c cs=>
  have hg:∀i,cl.getD i undef=(c::cs).getD i undef:=fun i=>by rw[<-hc,Qm]
  have hl:cl.size=cs.length+1:=by rw[<-Array.length_toList,hc];rfl
  refine⟨c,cs,rfl,?_,by simp at h1;omega,fun i hi=>?_⟩
  .have:=h2 0 aB;rw[hg] at this;simpa using this
  .have:=h2 (i+1) dP;rw[hg] at this;simpa using this
theorem anb (h:bG E B0 Z K w)(hB:B0<=w.heap.size){aj:Bool}{loc:Option Loc}{st:Nat}(hst:¬K.A st){b:Builtin}{tys:Array TypeId}{ty:TypeId}{consts:Array Bool}{args:List V}{dU:Array Value}{v:V}{Z':ah}(hr:RelA K Z.top w args dU)(hv:qD E aj loc Z st b tys args=some (v,Z')):vk E B0 (· =st) Z K w (builtin b tys ty consts dU) v Z':=by
 unfold qD at hv;split at hv
 .rename_i x;simp only[iR,aW,aS] at hv;obtain⟨t,ht,n,hn,rfl,rfl⟩:=hv;obtain⟨c,rfl,hx⟩:=Vv hr;exact .jr h ⟨_,am4 h ht hx hn,.int .i64 n⟩
 .rename_i x;simp only[iR] at hv;obtain⟨t,ht,e,he,hv⟩:=hv;obtain⟨c,rfl,hx⟩:=Vv hr;obtain⟨rfl,r⟩:=am5 (ty:=ty) ht (K8 he) hv hx;exact .jr h r
 .rename_i x y;simp only[iR] at hv;obtain⟨t,ht,u,⟨tx,htx,hu⟩,hv⟩:=hv;obtain⟨c,d,rfl,hx,hy⟩:=aew hr;have he:Builtin.append_ tys ty #[c,d]=Builtin.append_ #[t,tx] ty #[c,d]:=by simp[Builtin.append_,ht,htx]
  show vk E B0 _ Z K w (do pure (.value (<-Builtin.append_ tys ty #[c,d]))) v Z';rw[he];split at hv
  .rename_i k;exact .tT (Vs h hB hst hx hy (fun _=>⟨k,hu⟩) (fun hf=>by cases hf) hv)
  .rename_i e;exact .tT (Vs h hB hst hx hy (fun hf=>by cases hf) (fun _=>.inl ⟨e,hu⟩) hv)
  .exact .tT (Vs h hB hst hx hy (fun hf=>by cases hf) (fun _=>.inr hu) hv)
  .simp at hv
 .rename_i x y;simp only[iR] at hv;obtain⟨t,ht,hv⟩:=hv;obtain⟨c,d,rfl,hx,hy⟩:=aew hr;have he:Builtin.copy_ tys ty #[c,d]=Builtin.copy_ #[t,t] ty #[c,d]:=by simp[Builtin.copy_,ht]
  show vk E B0 _ Z K w (do pure (.value (<-Builtin.copy_ tys ty #[c,d]))) v Z';rw[he];exact .tT (am2 h hB hx hy hv)
 .rename_i x;simp only[iR] at hv;obtain⟨t,ht,hv⟩:=hv;obtain⟨c,rfl,hx⟩:=Vv hr;have he:Builtin.clear_ tys ty #[c]=Builtin.clear_ #[t] ty #[c]:=by simp[Builtin.clear_,ht]
  show vk E B0 _ Z K w (do pure (.value (<-Builtin.clear_ tys ty #[c]))) v Z';rw[he];exact .tT (am3 h hB hx hv)
 .rename_i x l;simp only[aW,aS] at hv;obtain⟨v',hv',rfl,rfl⟩:=hv;obtain⟨c,cs,hc,hx,hl,hrel⟩:=aex hr;obtain⟨c',r1,r2⟩:=aeo l cs x v' c hl hrel hx hv';have he:Builtin.min_ tys ty dU=cs.foldlM Builtin.min2 c:=by unfold Builtin.min_;rw[hc]
  exact .jr (s:=Builtin.min_ tys ty dU) h ⟨c',by rw[he];exact r1,r2⟩
 .rename_i x l;simp only[aW,aS] at hv;obtain⟨v',hv',rfl,rfl⟩:=hv;obtain⟨c,cs,hc,hx,hl,hrel⟩:=aex hr;obtain⟨c',r1,r2⟩:=aep l cs x v' c hl hrel hx hv';have he:Builtin.max_ tys ty dU=cs.foldlM Builtin.max2 c:=by unfold Builtin.max_;rw[hc]
  exact .jr (s:=Builtin.max_ tys ty dU) h ⟨c',by rw[he];exact r1,r2⟩
 .simp at hv
end
def oF (ro:Option Nat):Fence:={Fence.wide with round:=ro}
structure GL where
 l:List Deferred
 B:Nat
 nm:Bool
def mark (b:Nat):Deferred:=⟨.collected b, #[]⟩
structure St (E:Env)(B0:Nat)(Z:ah)(K:bq)(w:World)(fr:Fr)(a:Act)(n:Nat)(ds:GL):Prop where
 ok:bG E B0 Z K w
 hB:B0<=w.heap.size
 fr:l6 K Z.top w fr a.tmps
 sz:a.tmps.size=n
 df:∃bs:List Nat,a.defers=bs.map mark++ds.l/\bs.Nodup/\(∀b∈bs,K.D b/\ds.B<=b)/\(ds.nm=true->bs=[])
 st:∀s,K.A s->s<Z.next
 hD:ds.B<=w.heap.size
def mY:Ex->Exit->Prop
 |.normal,.normal=>True|.exit i,.exit j=>i=j|.ret,.ret=>True|_,_=>False
def newer (Z Z':ah)(s:Nat):Prop:=Z.next<=s/\s<Z'.next
def Ew (E:Env)(B0 n:Nat)(ds:GL)(Z:ah)(K:bq)(w:World)(e:Ex)(fr':Fr)(Z':ah):Exit->Act->World->Prop:=
 fun x a' w'=>mY e x/\∃K',St E B0 Z' K' w' fr' a' n ds/\Step E B0 (newer Z Z') Z K w Z' K' w'
def GN (E:Env)(code:Code->Fr->ah->Option (Ex×Fr×ah)):Prop:=
 ∀c fr Z e fr' Z',code c fr Z=some (e,fr',Z')->Z.next<=Z'.next/\∀ro B0 K w a n ds,St E B0 Z K w fr a n ds->iD n c=true->(ro=none/\ds.nm=false\/j4 c=true)->c.wpIn (oF ro) 0 E.P (Ew E B0 n ds Z K w e fr' Z') a w
def wJ (E:Env)(B0:Nat)(Z:ah)(K:bq)(w:World)(v:V)(Z':ah):Ending->World->Prop
 |.returned c,w'=>∃K',Rel K' Z'.top w' v c/\bG E B0 Z' K' w'/\(∀s,K'.A s->s<Z'.next)/\Step E B0 (newer Z Z') Z K w Z' K' w'|_,_=>False
def GQ (E:Env)(f:FuncId):Prop:=∃fn c,E.P.funcs[f]? =some fn/\fn.body=some c
def Ey (E:Env)(call:FuncId->List V->Nat->ah->Option (V×ah)):Prop:=
 ∀f args d Z v Z',call f args d Z=some (v,Z')->Z.next<=Z'.next/\GQ E f/\∀ro B0 K w dU,bG E B0 Z K w->B0<=w.heap.size->(∀s,K.A s->s<Z.next)->RelA K Z.top w args dU->
  CallsIn (oF ro) 0 E.P f dU w (wJ E B0 Z K w v Z')
structure Sound (E:Env)(S:iN):Prop where
 code:GN E S.code
 call:Ey E S.call
theorem Step.widen {E:Env}{B0:Nat}{Z Z1 Z2:ah}{K K1 K2:bq}{w w1 w2:World}(h:Step E B0 (newer Z Z1) Z K w Z1 K1 w1)(g:Step E B0 (newer Z1 Z2) Z1 K1 w1 Z2 K2 w2)(h1:Z.next<=Z1.next)(h2:Z1.next<=Z2.next):Step E B0 (newer Z Z2) Z K w Z2 K2 w2:=
 (h.mono (fun _ hs=>⟨hs.1,lW hs.2 h2⟩)).trans (g.mono (fun _ hs=>⟨eO h1 hs.1,hs.2⟩))
end aR
end
section
open Go
namespace aR
section
variable {F:Fence}{n:Nat}{P:Program}{Q:Exit->Act->World->Prop}{b:Frame}{k:List Item}{cs:List Frame}{a:Act}{w:World}
theorem GR {c:Code}:step P (lone (b.atR a (.code (.scope c)::k)) cs w)= .next (lone (b.atR a (.code c:: .inScope c::k)) cs w):=
 step_lone_go (by simp[stepG,stepG.exec,Frame.atR])
theorem anc {c:Code}:step P (lone (b.atR a (.inScope c::k)) cs w)= .next (lone (b.atR a k) cs w):=
 step_lone_go (by simp[stepG,stepG.exec,Frame.atR])
theorem ane {c:Code}(h:c.wpIn F n P (Exit.noGoto Q) a w):(Code.scope c).wpIn F n P Q a w:=by
 intro b k cs hro hb hr;have h0:(lone (b.atR a (.code (.scope c)::k)) cs w).fenced P F:=fenced_calm hb hr rfl;obtain⟨e,a₁,w₁,hq,harr⟩:=h b (.inScope c::k) cs hro hb hr;cases e with
 |normal=>exact⟨.normal,a₁,w₁,hq,.head h0 GR (StepsIn.trans harr (.one (fenced_calm hb hr rfl) anc))⟩|exit id'=>
  have hx:exitTo id' (.inScope c::k)=exitTo id' k:=by simp[exitTo]
  exact⟨.exit id',a₁,w₁,hq,fun k' hk=>.head h0 GR (harr.1 k' (by rw[hx];exact hk)),
   fun hr' hk=>let ⟨k₁,h1,h2⟩:=harr.2 hr' (by rw[hx];exact hk);⟨k₁,h1,.head h0 GR h2⟩⟩
 |goto l=>exact hq.elim|ret=>exact⟨_,a₁,w₁,hq,.of_steps (.one h0 GR) harr⟩|panic ch=>exact⟨_,a₁,w₁,hq,.of_steps (.one h0 GR) harr⟩|outgrown=>exact⟨_,a₁,w₁,hq,.of_steps (.one h0 GR) harr⟩
end
end aR
end
section
namespace aR
open Go Go.RowKit
section
variable {E:Env}{B0:Nat}{Z:ah}{K:bq}{w:World}{fr:Fr}{a:Act}{n:Nat}{ds:GL}
def qd (E:Env)(c:Code)(fr:Fr)(Z:ah)(e:Ex)(fr':Fr)(Z':ah):Prop:=
 Z.next<=Z'.next/\∀ro B0 K w a n ds,St E B0 Z K w fr a n ds->iD n c=true->(ro=none/\ds.nm=false\/j4 c=true)->c.wpIn (oF ro) 0 E.P (Ew E B0 n ds Z K w e fr' Z') a w
theorem anf:qd E .skip fr Z .normal fr Z:=
 ⟨mF _,fun _ _ K _ _ _ _ h _ _=>wpIn_skip ⟨trivial,K,h,.refl h.ok⟩⟩
theorem ang (id:Nat):qd E (.exit id) fr Z (.exit id) fr Z:=
 ⟨mF _,fun _ _ K _ _ _ _ h _ _=>wpIn_exit ⟨rfl,K,h,.refl h.ok⟩⟩
theorem anh:qd E .ret fr Z .ret fr Z:=
 ⟨mF _,fun _ _ K _ _ _ _ h _ _=>wpIn_ret ⟨trivial,K,h,.refl h.ok⟩⟩
theorem ani (l:Nat):qd E (.label l) fr Z .normal fr Z:=
 ⟨mF _,fun _ _ K _ _ _ _ h _ _=>wpIn_label ⟨trivial,K,h,.refl h.ok⟩⟩
theorem anj {c:Code}{e:Ex}{bJ:Fr}{Z1:ah}(h:qd E c fr Z e bJ Z1):qd E (.scope c) fr Z e bJ Z1:=by
 refine⟨h.1,fun ro B0 K w a n ds hs hok hnr=>ane (wpIn_mono (h.2 ro B0 K w a n ds hs hok hnr) ?_)⟩;rintro x a1 w1 ⟨hx,hr⟩;cases x with
 |goto l=>cases e<;>simp only[mY] at hx|_=>exact⟨hx,hr⟩
theorem Ew.widen {Z1 Z2:ah}{K1:bq}{w1:World}{e:Ex}{fr':Fr}(h:Step E B0 (newer Z Z1) Z K w Z1 K1 w1)(h1:Z.next<=Z1.next)(h2:Z1.next<=Z2.next):
 ∀x a' w',Ew E B0 n ds Z1 K1 w1 e fr' Z2 x a' w'->Ew E B0 n ds Z K w e fr' Z2 x a' w':=by
 rintro x a' w' ⟨g1,K2,g2,g3⟩;exact⟨g1,K2,g2,h.widen g3 h1 h2⟩
theorem ank {c d:Code}{e:Ex}{bJ iW:Fr}{Z1 Z2:ah}(h:qd E c fr Z .normal bJ Z1)(g:qd E d bJ Z1 e iW Z2):qd E (.seq c d) fr Z e iW Z2:=by refine⟨eO h.1 g.1,fun ro B0 K w a n ds hs hok hnr=>?_⟩;simp only[iD,aZ] at hok;simp only[j4,aZ] at hnr;refine wpIn_seq (wpIn_mono (h.2 ro B0 K w a n ds hs hok.1 (hnr.imp id And.left)) ?_);rintro x a1 w1 ⟨hx,K1,s1,st1⟩;cases x<;>simp only[mY] at hx;exact wpIn_mono (g.2 ro B0 K1 w1 a1 n ds s1 hok.2 (hnr.imp id And.right)) (Ew.widen st1 h.1 g.1)
theorem aey {c d:Code}{e:Ex}{bJ:Fr}{Z1:ah}(he:e≠ .normal)(h:qd E c fr Z e bJ Z1):qd E (.seq c d) fr Z e bJ Z1:=by
 refine⟨h.1,fun ro B0 K w a n ds hs hok hnr=>?_⟩;simp only[iD,aZ] at hok;simp only[j4,aZ] at hnr;refine wpIn_seq (wpIn_mono (h.2 ro B0 K w a n ds hs hok.1 (hnr.imp id And.left)) ?_);rintro x a1 w1 ⟨hx,K1,s1,st1⟩;cases e<;>cases x<;>simp only[mY] at hx
 .exact absurd rfl he
 .exact⟨hx,K1,s1,st1⟩
 .exact⟨hx,K1,s1,st1⟩
theorem anl {c:Operand}{x y:Code}{t:Bool}{e:Ex}{bJ:Fr}{Z1:ah}(hc:xO (fr.ev E c)=some t)(h:qd E (if t then x else y) fr Z e bJ Z1):qd E (.cond c x y) fr Z e bJ Z1:=by
 refine⟨h.1,fun ro B0 K w a n ds hs hok hnr=>?_⟩;simp only[iD,aZ] at hok;simp only[j4,aZ] at hnr;refine wpIn_cond (aer (Al hs.ok hs.fr c) hc) (h.2 ro B0 K w a n ds hs ?_ ?_)
 .cases t
  .exact hok.2
  .exact hok.1
 .cases t
  .exact hnr.imp id And.right
  .exact hnr.imp id And.left
def Vw (id:Nat):Ex->Ex
 |.exit i=>if i=id then .normal else .exit i|e=>e
theorem anm {id:Nat}{c:Code}{e:Ex}{bJ:Fr}{Z1:ah}(h:qd E c fr Z e bJ Z1):qd E (.block id c) fr Z (Vw id e) bJ Z1:=by
 refine⟨h.1,fun ro B0 K w a n ds hs hok hnr=>wpIn_block (wpIn_mono (h.2 ro B0 K w a n ds hs hok hnr) ?_)⟩;rintro x a1 w1 ⟨hx,K1,s1,st1⟩;cases e with
 |normal=>cases x<;>simp only[mY] at hx;exact⟨trivial,K1,s1,st1⟩|ret=>cases x<;>simp only[mY] at hx;exact⟨trivial,K1,s1,st1⟩|exit i=>
  cases x<;>simp only[mY] at hx;subst hx;simp only[Exit.inBlock,Vw];split
  .exact⟨trivial,K1,s1,st1⟩
  .exact⟨rfl,K1,s1,st1⟩
end
section
variable {E:Env}{B0:Nat}{Z Z':ah}{K K':bq}{w w':World}{fr:Fr}{a:Act}{n:Nat}{ds:GL}
theorem l6.put {T:Nat->Nat}(h:l6 K T w fr a.tmps){d:Option Nat}{v:V}{c:Value}(hr:Rel K T w v c)(hd:∀i,d=some i->i<a.tmps.size):l6 K T w (fr.put d v) (a.put d c).tmps:=by
 cases d with
 |none=>exact h|some i=>
  have hi:=hd i rfl;intro t;show Rel K T w (upd fr.tm i v t) ((a.tmps.setIfInBounds i c).getD t undef);by_cases ht:t=i
  .subst ht;rw[upd_same];have:(a.tmps.setIfInBounds t c).getD t undef=c:=by simp[Array.getD,hi]
   rw[this];exact hr
  .rw[upd_ne _ _ ht];have:(a.tmps.setIfInBounds i c).getD t undef=a.tmps.getD t undef:=by
    simp only[Array.getD,Array.size_setIfInBounds];split
    .rename_i hlt;show (a.tmps.setIfInBounds i c)[t]'(by simpa using hlt)=a.tmps[t];rw[Array.getElem_setIfInBounds_ne hlt (Ne.symm ht)]
    .rfl
   rw[this];exact h t
theorem ano (a:Act)(d:Option Nat)(c:Value):(a.put d c).tmps.size=a.tmps.size:=by cases d<;>simp[Act.put]
theorem put_defers (a:Act)(d:Option Nat)(c:Value):(a.put d c).defers=a.defers:=Gh
theorem St.put (h:St E B0 Z K w fr a n ds){new:Nat->Prop}{d:Option Nat}{v:V}{c:Value}(hs:Step E B0 new Z K w Z' K' w')(hr:Rel K' Z'.top w' v c)(hd:∀i,d=some i->i<n)(hst:∀s,K'.A s->s<Z'.next):
 St E B0 Z' K' w' (fr.put d v) (a.put d c) n ds:=
 ⟨hs.ok,eO h.hB hs.below.size,l6.put (h.fr.ext hs.ext) hr (fun i hi=>by rw[h.sz];exact hd i hi),by rw[ano];exact h.sz,by obtain⟨bs,h1,h2,h3,h4⟩:=h.df;exact⟨bs,by rw[put_defers];exact h1,h2,fun b hb=>⟨hs.D b (h3 b hb).1,(h3 b hb).2⟩,h4⟩,hst,eO h.hD hs.below.size⟩
theorem Qt {o:Oper}(ro:Option Nat)(C:Operand->Value)(h:∀c,o.op≠ .defer c):o.semAt ro C=execOp C o:=by
 unfold Oper.semAt;split
 .rename_i c hc;exact absurd hc (h c)
 .rfl
theorem anp {o:Oper}{ro:Option Nat}{new:Nat->Prop}{v:V}{next:Act->World->Prop}{Q:Exit->Act->World->Prop}(ho:∀c,o.op≠ .defer c)(hd:vk E B0 new Z K w (execOp a.eval o) v Z')(hn:∀c w' K',Rel K' Z'.top w' v c->Step E B0 new Z K w Z' K' w'->next (a.put o.dst c) w'):o.wpIn (oF ro) 0 E.P a w next Q:=by
 refine⟨fun f _=>trivial,?_⟩;obtain⟨nx,c,w',K',h1,h2,h3,h4⟩:=hd;rw[Qt _ _ ho,h1];rcases h2 with rfl| ⟨rfl,rfl⟩
 .exact hn c w' K' h3 h4
 .exact hn undef w' K' h3 h4
end
def tV (Z Z':ah):Prop:=Z'.next=Z.next/\Z'.loops=Z.loops
theorem tV.refl (Z:ah):tV Z Z:=⟨rfl,rfl⟩
section
variable {E:Env}{Z Z':ah}{fr:Fr}
theorem anq {t:TypeId}{m k v:V}(h:uY E.P Z t m k v=some Z'):tV Z Z':=by
 simp only[uY,iR] at h;obtain⟨⟨kt,et⟩,_,h⟩:=h;split at h
 .cases m<;>simp only[reduceCtorEq] at h;simp only[iR,aW] at h;obtain⟨_,_,_,_,rfl⟩:=h;exact⟨rfl,rfl⟩
 .simp at h
theorem anr {aj:Bool}{st:Nat}{loc:Option Loc}{t:TypeId}{l c v:V}(h:Ai E.P aj Z st loc t l c=some (v,Z')):tV Z Z':=by unfold Ai at h;cases h
theorem ant {t:TypeId}{x y v:V}(h:copyV E.P Z t x y=some (v,Z')):tV Z Z':=by
 simp only[copyV,iR] at h;obtain⟨_,_,_,_,_,_,h⟩:=h;split at h
 .simp only[iR] at h;obtain⟨_,_,h⟩:=h;split at h
  .split at h
   .simp only[iR] at h;obtain⟨_,_,h⟩:=h;split at h
    .simp only[iE,aS] at h;obtain⟨_,rfl⟩:=h;exact⟨rfl,rfl⟩
    .simp at h
   .simp only[iE,aS] at h;obtain⟨_,rfl⟩:=h;exact⟨rfl,rfl⟩
   .simp at h
  .simp at h
 .simp at h
theorem Vx {aj zeros:Bool}{st:Nat}{loc:Option Loc}{t:TypeId}{x y v:V}(h:ku E.P aj zeros Z st loc t x y=some (v,Z')):tV Z Z':=by
 simp only[ku,iR] at h;obtain⟨_,_,_,_,_,_,_,_,_,_,h⟩:=h;split at h
 .simp only[iR] at h;obtain⟨_,_,h⟩:=h;split at h
  .split at h
   .split at h
    .split at h;all_goals first
      | (simp only[aW,aS] at h;obtain⟨_,_,_,rfl⟩:=h;exact⟨rfl,rfl⟩)
      | (simp only[iE,aS] at h;obtain⟨_,rfl⟩:=h;exact⟨rfl,rfl⟩)
      | (split at h
         .simp at h
         .simp only[aW,aS] at h;obtain⟨_,_,_,rfl⟩:=h;exact⟨rfl,rfl⟩)
      | (split at h
         .simp only[iE,aS] at h;obtain⟨_,rfl⟩:=h;exact⟨rfl,rfl⟩
         .simp only[aW,aS] at h;obtain⟨_,_,_,rfl⟩:=h;exact⟨rfl,rfl⟩)
      | (split at h
         .simp only[iE,aS] at h;obtain⟨_,rfl⟩:=h;exact⟨rfl,rfl⟩
         .simp at h)
      |simp at h
    .simp at h
   .split at h
    .simp only[iR] at h;obtain⟨_,_,_,_,h⟩:=h;split at h
     .split at h
      .simp only[iE,aS] at h;obtain⟨_,rfl⟩:=h;exact⟨rfl,rfl⟩
      .simp at h
     .split at h
      .simp only[iE,aS] at h;obtain⟨_,rfl⟩:=h;exact⟨rfl,rfl⟩
      .simp at h
    .simp at h
   .simp at h
  .simp at h
 .simp at h
theorem anu {t:TypeId}{x v:V}(h:Gp E.P Z t x=some (v,Z')):tV Z Z':=by unfold Gp at h;cases h
theorem aez {aj:Bool}{st:Nat}{loc:Option Loc}{b:Builtin}{tys:Array TypeId}{args:List V}{v:V}(h:qD E aj loc Z st b tys args=some (v,Z')):tV Z Z':=by
 unfold qD at h;split at h
 .simp only[iR,aW,aS] at h;obtain⟨_,_,_,_,_,rfl⟩:=h;exact .refl _
 .simp only[iR] at h;obtain⟨_,_,_,_,h⟩:=h;split at h
  .simp only[iE,aS] at h;obtain⟨_,rfl⟩:=h;exact .refl _
  .simp only[iE,aS] at h;obtain⟨_,rfl⟩:=h;exact .refl _
  .simp at h
 .simp only[iR] at h;obtain⟨_,_,_,_,h⟩:=h;split at h
  .exact Vx h
  .exact Vx h
  .exact Vx h
  .simp at h
 .simp only[iR] at h;obtain⟨_,_,h⟩:=h;exact ant h
 .simp only[iR] at h;obtain⟨_,_,h⟩:=h;exact anu h
 .simp only[aW,aS] at h;obtain⟨_,_,_,rfl⟩:=h;exact .refl _
 .simp only[aW,aS] at h;obtain⟨_,_,_,rfl⟩:=h;exact .refl _
 .simp at h
theorem anv {x v:V}(h:xP Z x=some (v,Z')):tV Z Z':=by
 unfold xP at h;split at h
 .simp only[iR] at h;obtain⟨_,_,h⟩:=h;split at h
  .simp only[iE,aS] at h;obtain⟨_,rfl⟩:=h;exact⟨rfl,rfl⟩
  .simp at h
 .simp only[iE,aS] at h;obtain⟨_,rfl⟩:=h;exact .refl _
 .simp only[iE,aS] at h;obtain⟨_,rfl⟩:=h;exact .refl _
theorem anw {st:Nat}{loc:Option Loc}{t:TypeId}{len:Nat}{ps:List (Nat×V)}{v:V}(h:BO E Z st loc t len ps=some (v,Z')):tV Z Z':=by
 simp only[BO,iR] at h;obtain⟨_,_,_,_,_,_,_,_,h⟩:=h;split at h
 .simp only[iR,aW,aS] at h;obtain⟨_,_,_,_,_,rfl⟩:=h;exact⟨rfl,rfl⟩
 .simp at h
theorem aeA {st:Nat}{o:Oper}{v:V}(h:dh E fr Z st o=some (v,Z')):tV Z Z':=by
 unfold dh at h;split at h;all_goals first
  |exact anr h
  | (split at h<;>first
      |exact anv h
      |exact anw h
      | (simp only[aW,aS] at h;obtain⟨_,_,_,rfl⟩:=h;exact⟨rfl,rfl⟩)
      | (simp only[iE,aS] at h;obtain⟨_,rfl⟩:=h;exact .refl _))
  | (simp only[iE,aS] at h;obtain⟨_,rfl⟩:=h;exact .refl _)
  | (simp only[aW,aS] at h;obtain⟨_,_,_,rfl⟩:=h;exact⟨rfl,rfl⟩)
  | (simp only[aW,aS] at h;obtain⟨_,h1,_,rfl⟩:=h;exact anq h1)
  | (simp only[iR,aW,aS] at h;obtain⟨_,_,_,_,_,_,_,rfl⟩:=h;exact⟨rfl,rfl⟩)
  |simp at h
  | (simp only[iR] at h
     obtain⟨_,_,h⟩:=h;split at h
     .simp only[iE,aS] at h;obtain⟨_,rfl⟩:=h;exact⟨rfl,rfl⟩
     .simp at h)
  |skip
 all_goals
  repeat' first
   |exact⟨rfl,rfl⟩
   | (obtain⟨_,_,h⟩:=h)
   | (simp only[iR] at h)
   |split at h
   | (simp only[iE,aS] at h;obtain⟨_,rfl⟩:=h;exact⟨rfl,rfl⟩)
   | (simp only[aW,aS] at h;obtain⟨_,_,_,rfl⟩:=h;exact⟨rfl,rfl⟩)
   | (simp at h;done)
end
def bq.lend (I:Nat->Nat->Prop)(IM:Nat->Prop):bq:=
 {A:=fun _=>False,blk:=fun _=>0,sz:=fun _=>0,ob:=fun _=>0,lo:=fun _=>0,hi:=fun _=>0,lp:=fun _=>0,I:=I,IM:=IM,D:=fun _=>False,C:=fun _=>none}
def grow (I:Nat->Nat->Prop)(B:Nat)(w:World)(b o:Nat):Prop:=(I b o\/B<=b)/\∃v,w.cell? (at_ b o)=some v
def xU (IM:Nat->Prop)(B:Nat)(w:World)(b:Nat):Prop:=(IM b\/B<=b)/\∃es dL,w.heap[b]? =some (.map es dL)
theorem vo:∀{l:List V},bQ l=true->∀i,i<l.length->aQ (l.getD i aJ)=true
 |v::l,h,0,_=>by simp only[bQ,aZ] at h;exact h.1|v::l,h,i+1,hi=>by simp only[bQ,aZ] at h;exact vo h.2 i jH
theorem Vy:∀{l:List V},kW l=true->∀i,i<l.length->flat (l.getD i aJ)=true
 |v::l,h,0,_=>by simp only[kW,aZ] at h;exact h.1|v::l,h,i+1,hi=>by simp only[kW,aZ] at h;exact Vy h.2 i jH
theorem Vz {v:V}(h:aQ v=true){j:Nat}(hj:j<v.cells.length):aQ (v.cells.getD j aJ)=true:=by
 cases v with
 |agg cs=>exact vo (l:=cs) (by simpa [aQ] using h) j hj|_=>
  have:j=0:=by simpa [V.cells] using hj
  subst this;exact h
section
variable {K K':bq}{T T':Nat->Nat}{w w':World}
theorem Rel.pure {v:V}{c:Value}(h:Rel K T w v c)(hp:aQ v=true)(hI:∀b o,K.I b o->K'.I b o/\w'.cell? (at_ b o)=w.cell? (at_ b o))(hM:∀b,K.IM b->K'.IM b/\w'.heap[b]? =w.heap[b]?):Rel K' T' w' v c:=by
 induction h with
 |int k n=>exact .int k n|bool b=>exact .bool b|str s b h=>exact .str s b h|gU=>exact .gU|gH=>exact .gH|gP=>exact .gP|iH=>exact .iH|agg cs vs hl _ ih=>exact .agg cs vs hl (fun i hi=>ih i hi (vo Bw i hi))
 |bK cs vs hl _ ih=>exact .bK cs vs hl (fun i hi=>ih i hi (vo Bw i hi))
 |gD c a ha hc=>
  cases c<;>simp only[aQ,bZ] at hp;exact .gD .sh a (fun h=>bU) trivial
 |ak c l b o n cap val hle hn hcell _ hc ih=>
  cases c<;>simp only[aQ,bZ] at hp;refine .ak .sh l b o n cap val hle hn (fun i j hi hj=>?_) (fun i j hi hj=>ih i j hi hj (Vz (vo hp i hi) (by rw[hn i hi];exact hj))) trivial;obtain⟨h1,h2⟩:=hcell i j hi hj;obtain⟨g1,g2⟩:=hI _ _ h2;exact⟨g2.trans h1,g1⟩
 |aU loc s off len cap bD ag fq hA hc hle hsz=>simp[aQ] at hp|om loc s bD ag hA=>simp[aQ] at hp|aX cs off b o val hcell _ ih=>refine .aX cs off b o val (fun j hj=>?_) (fun j hj=>ih j hj (vo Bw j hj));obtain⟨h1,h2⟩:=hcell j hj;obtain⟨g1,g2⟩:=hI _ _ h2;exact⟨g2.trans h1,g1⟩
 |ref loc s off hA=>simp[aQ] at hp|fn f a b kI bv ha hb _ _ iha ihb=>simp only[aQ,aZ] at hp;exact .fn f a b kI bv ha hb (fun i hi=>iha i hi (vo hp.1 i hi)) (fun i hi=>ihb i hi (vo hp.2 i hi))
 |yield l hA=>simp[aQ] at hp|dQ loc s hA=>simp[aQ] at hp|eF ks vs b es dL hM' hb hk hv _ _ ihk K4=>simp only[aQ,aZ] at hp;obtain⟨g1,g2⟩:=hM b hM';exact .eF ks vs b es dL g1 (g2.trans hb) hk hv (fun i hi=>ihk i hi (vo hp.1 i RS)) (fun i hi=>K4 i hi (vo hp.2 i RS))
 |iface t v c _ ih=>exact .iface t v c (ih Bw)|raw v=>simp[aQ] at hp
theorem Rel.flat {v:V}{c:Value}(h:Rel K T w v c)(hp:flat v=true):Rel K' T' w' v c:=by
 induction h with
 |int k n=>exact .int k n|bool b=>exact .bool b|str s b h=>exact .str s b h|gU=>exact .gU|gH=>exact .gH|gP=>exact .gP|iH=>exact .iH|agg cs vs hl _ ih=>exact .agg cs vs hl (fun i hi=>ih i hi (Vy (by simpa [aR.flat] using hp) i hi))
 |bK cs vs hl _ ih=>exact .bK cs vs hl (fun i hi=>ih i hi (Vy (by simpa [aR.flat] using hp) i hi))
 |_=>simp[aR.flat] at hp
theorem anx {cs:List V}{vs:Array Value}(h:Rel K T w (.agg cs) (.agg vs)):cs.length=vs.size/\∀i,i<cs.length->Rel K T w (cs.getD i aJ) (vs.getD i undef):=by
 cases h with
 |agg _ _ hl h=>exact⟨hl,h⟩
theorem anz {n:Nat}{Z:ah}{cs:List V}{v:V}(h:bg n Z (.agg cs)=some v):∃cs',v= .agg cs':=by
 cases n with
 |zero=>simp[bg] at h|succ n=>
  unfold bg at h;split at h
  .simp only[iE] at h;exact⟨cs,h.symm⟩
  .simp only[aW] at h;obtain⟨cs',_,rfl⟩:=h;exact⟨cs',rfl⟩
theorem anA {n:Nat}{Z:ah}{x v:V}(hx:∀cs,x≠ .agg cs)(h:bg n Z x=some v):v.cells=[v]/\x.cells=[x]:=by
 have h2:x.cells=[x]:=by cases x<;>first|rfl|exact absurd rfl (hx _)
 refine⟨?_,h2⟩;cases n with
 |zero=>simp[bg] at h|succ n=>
  unfold bg at h;split at h
  .simp only[iE] at h;subst h;exact h2
  .split at h;all_goals try (simp only[reduceCtorEq] at h;done)
   all_goals try (simp only[aW] at h;obtain⟨_,_,rfl⟩:=h;first|rfl|exact absurd rfl (hx _))
   all_goals try (simp only[iR,aW] at h;obtain⟨_,_,_,_,rfl⟩:=h;rfl)
   .simp only[iR] at h;obtain⟨_,_,h⟩:=h;split at h
    .simp only[iR] at h;obtain⟨_,_,h⟩:=h;split at h
     .simp only[iE] at h;subst h;rfl
     .simp at h
    .simp at h
   .simp only[iR] at h;obtain⟨⟨ks,vs⟩,_,h⟩:=h;simp only[iR,aW] at h;obtain⟨_,_,_,_,rfl⟩:=h;rfl
theorem VA {E:Env}{B0:Nat}{Z:ah}(h:bG E B0 Z K w):∀(n:Nat)(v v':V)(c:Value),Rel K Z.top w v c->bg n Z v=some v'->
 Rel (bq.lend (grow K.I B0 w) (xU K.IM B0 w)) T' w v' c:=by
 have Am:∀b o,K.I b o->grow K.I B0 w b o/\w.cell? (at_ b o)=w.cell? (at_ b o):=fun b o hi=>⟨⟨.inl hi,(h.I b o hi).1⟩,rfl⟩;have BZ:∀b,K.IM b->xU K.IM B0 w b/\w.heap[b]? =w.heap[b]? :=fun b hi=>⟨⟨.inl hi,(h.IM b hi).1⟩,rfl⟩;intro n;induction n with
 |zero=>intro v v' c _ hc;simp[bg] at hc|succ n ih=>
  intro v v' c hr hc;have hlist:∀(l l':List V)(val:Nat->Value),l.mapM (bg n Z)=some l'->(∀i,i<l.length->Rel K Z.top w (l.getD i aJ) (val i))->
   l'.length=l.length/\∀i,i<l'.length->Rel (bq.lend (grow K.I B0 w) (xU K.IM B0 w)) T' w (l'.getD i aJ) (val i):=by
   intro l l' val hm hv;obtain⟨h1,h2⟩:=mapM_some hm;refine⟨h1.symm,fun i hi=>?_⟩;obtain⟨h3,h4⟩:=h2 i RS;have:=hv i RS;rw[kD (show i<l.length by omega)] at this;rw[kD h3];exact ih _ _ _ this h4
  have hcells:∀(x x':V)(m:Nat)(val:Nat->Value),bg n Z x=some x'->x.cells.length=m->(∀j,j<m->Rel K Z.top w (x.cells.getD j aJ) (val j))->
   x'.cells.length=m/\∀j,j<m->Rel (bq.lend (grow K.I B0 w) (xU K.IM B0 w)) T' w (x'.cells.getD j aJ) (val j):=by
   intro x x' m val hx hm hv;by_cases hag:∃cs,x= .agg cs
   .obtain⟨cs,rfl⟩:=hag;obtain⟨cs',rfl⟩:=anz hx;have hm':cs.length=m:=hm;have hcell:∀j,j<m->(Array.ofFn fun i:Fin m=>val i).getD j undef=val j:=fun j hj=>by simp[Array.getD,hj]
    have r:Rel K Z.top w (.agg cs) (.agg (Array.ofFn fun i:Fin m=>val i)):=.agg _ _ (by simpa using hm') (fun i hi=>by rw[hcell i RS];exact hv i RS);obtain⟨g1,g2⟩:=anx (ih _ _ _ r hx);have g1':cs'.length=m:=(by simpa using g1);exact⟨g1',fun j hj=>by have:=g2 j RS;rw[hcell j hj] at this;exact this⟩
   .obtain⟨h1,h2⟩:=anA (fun cs e=>hag ⟨cs,e⟩) hx;rw[h2] at hm hv;have hm1:m=1:=(by simpa using hm.symm);subst hm1;rw[h1];refine⟨rfl,fun j hj=>?_⟩;have hj0:j=0:=RS;subst hj0;exact ih _ _ _ (hv 0 RS) hx
  have Qg:∀loc s cs,Z.dK loc s=some cs->cs≠[]->∃vals t,w.heap[K.blk s]? =some (.cells vals t (0,0))/\vals.size=K.sz s/\cs.length<=vals.size/\B0<=K.blk s/\
   (∀i,i<cs.length->Rel K Z.top w (cs.getD i aJ) (vals.getD i undef))/\∀i,i<vals.size->w.cell? (at_ (K.blk s) i)=some (vals.getD i undef):=by
   intro loc s cs hcs hne;obtain⟨g1,_,_⟩:=h.wG hcs;obtain⟨a1,a2,a3⟩:=h.obj _ _ _ g1;obtain⟨b1,vals,t,b2,b3,b4,b5⟩:=a2.2 hne;refine⟨vals,t,b2,b3,b4,b1,b5,fun i hi=>?_⟩;simp[World.cell?,b2,Array.getD,hi]
  unfold bg at hc;split at hc
  .rename_i hp;simp only[iE] at hc;subst hc;exact hr.pure hp Am BZ
  .cases hr with
   |gD c a ha hcn=>simp only[List.mapM_nil,Option.pure_def,Option.map_some,iE] at hc;subst hc;exact .gD .sh a (fun h=>bU) trivial
   |ak c l b o m cap val hle hn hcell hrel hcap=>
    simp only[aW] at hc;obtain⟨l',hm,rfl⟩:=hc;obtain⟨h1,h2⟩:=mapM_some hm;have hel:∀i,i<l'.length->(l'.getD i aJ).cells.length=m/\∀j,j<m->Rel (bq.lend (grow K.I B0 w) (xU K.IM B0 w)) T' w ((l'.getD i aJ).cells.getD j aJ) (val i j):=by
     intro i hi;obtain⟨h3,h4⟩:=h2 i RS;rw[kD h3];refine hcells _ _ m (val i) h4 ?_ (fun j hj=>?_)
     .have:=hn i RS;rwa[kD (show i<l.length by omega)] at this
     .have:=hrel i j RS hj;rwa[kD (show i<l.length by omega)] at this
    rw[h1];refine .ak .sh l' b o m cap val RS (fun i hi=>(hel i hi).1) (fun i j hi hj=>?_) (fun i j hi hj=>(hel i hi).2 j hj) trivial;obtain⟨e1,e2⟩:=hcell i j RS hj;exact⟨e1,(Am _ _ e2).1⟩
   |agg cs vs hl hrel=>simp only[aW] at hc;obtain⟨l',hm,rfl⟩:=hc;obtain⟨h1,h2⟩:=hlist _ _ (fun i=>vs.getD i undef) hm hrel;exact .agg _ _ RS h2
   |bK cs vs hl hrel=>simp only[aW] at hc;obtain⟨l',hm,rfl⟩:=hc;obtain⟨h1,h2⟩:=hlist _ _ (fun i=>vs.getD i undef) hm hrel;exact .bK _ _ RS h2
   |aX cs off b o val hcell hrel=>simp only[aW] at hc;obtain⟨l',hm,rfl⟩:=hc;obtain⟨h1,h2⟩:=hlist _ _ val hm hrel;exact .aX l' off b o val (fun j hj=>⟨(hcell j RS).1,(Am _ _ (hcell j RS).2).1⟩) h2
   |fn f a b kI bv ha hb ra rb=>simp only[iR,aW] at hc;obtain⟨a',hma,b',hmb,rfl⟩:=hc;obtain⟨h1,h2⟩:=hlist _ _ (fun i=>kI.getD i undef) hma ra;obtain⟨h3,h4⟩:=hlist _ _ (fun i=>bv.getD i undef) hmb rb;exact .fn f a' b' kI bv RS RS h2 h4
   |ref loc s off hA=>
    simp only[iR,aW] at hc;obtain⟨cs,hcs,cs',hm,rfl⟩:=hc;have key:Rel (bq.lend (grow K.I B0 w) (xU K.IM B0 w)) T' w (.aX cs' off) (.pointer (some (at_ (K.blk s) (0+off)))):=by
     by_cases hne:cs=[]
     .subst hne;simp only[List.mapM_nil,Option.pure_def,iE] at hm;subst hm;exact .aX [] off _ 0 (fun _=>undef) (fun j hj=>absurd hj (fZ j)) (fun j hj=>absurd hj (fZ j))
     .obtain⟨vals,t,e1,e2,e3,e4,e5,e6⟩:=Qg _ _ _ hcs hne;obtain⟨h1,h2⟩:=hlist _ _ (fun i=>vals.getD i undef) hm e5;refine .aX cs' off _ 0 (fun i=>vals.getD i undef) (fun j hj=>?_) h2;rw[nX];exact⟨e6 j RS,.inr e4,_,e6 j RS⟩
    rwa[nX] at key
   |om loc s bD ag hA=>
    simp only[iR] at hc;obtain⟨cs,hcs,hc⟩:=hc;split at hc
    .simp only[iR] at hc;obtain⟨cs',hm,hc⟩:=hc;split at hc
     .simp only[iE] at hc;subst hc;exact .gD .sh none (fun _=>rfl) trivial
     .simp at hc
    .simp at hc
   |aU loc s off len cap bD ag fq hA hcp hle hsz=>
    simp only[iR] at hc;obtain⟨cs,hcs,hc⟩:=hc;split at hc
    .rename_i hlen;simp only[iR] at hc;obtain⟨cs',hm,hc⟩:=hc;split at hc
     .rename_i hag;simp only[iE] at hc;subst hc;have Lg:ag=false->bD=1:=fun e=>by simp[e] at hag;exact hag.1
      have Lh:ag=false->bY cs'=true:=fun e=>by simp[e] at hag;exact hag.2
      have hl':((cs.drop off).take (len*bD)).length=len*bD:=dP;by_cases hne:cs=[]
      .subst hne;have h0:len*bD=0:=(by simp at hlen;omega);have hd:(([]:List V).drop off).take (len*bD)=[]:=aB;rw[hd] at hm;simp only[List.mapM_nil,Option.pure_def,iE] at hm;subst hm;exact Gy (w:=w) (val:=fun _=>undef) Lg (by rw[h0];exact qA _) Lh (fun j hj=>RS) (fun j hj=>RS) RS trivial
      .obtain⟨vals,t,e1,e2,e3,e4,e5,e6⟩:=Qg _ _ _ hcs hne;obtain⟨h1,h2⟩:=hlist _ _ (fun i=>vals.getD (off+i) undef) hm (fun i hi=>by rw[hl'] at hi;rw[rz _ hi,tQ];exact e5 _ RS);rw[hl'] at h1;refine Gy (w:=w) (val:=fun i=>vals.getD (off+i) undef) Lg RS Lh (fun j hj=>⟨e6 _ RS,.inr e4,_,e6 _ RS⟩) (fun j hj=>h2 j RS) RS trivial
     .simp at hc
    .simp at hc
   |dQ loc s hA=>
    simp only[iR] at hc;obtain⟨⟨ks,vs⟩,hmp,hc⟩:=hc;simp only[iR,aW] at hc;obtain⟨ks',hk,vs',hv,rfl⟩:=hc;have kJ:Z.obj loc=some (s,.map ks vs):=by
     unfold ah.jh at hmp;split at hmp
     .rename_i s' aAL vs0 ho;split at hmp
      .rename_i hs;simp only[iE,aS] at hmp;obtain⟨rfl,rfl⟩:=hmp;rw[ho,hs]
      .simp at hmp
     .simp at hmp
    obtain⟨_,⟨a1,es,dL,a2,a3,a4,a5,a6⟩,_⟩:=h.obj _ _ _ kJ;obtain⟨h1,h2⟩:=hlist _ _ (fun i=>(es.getD i default).key) hk (fun i hi=>a5 i RS);obtain⟨h3,h4⟩:=hlist _ _ (fun i=>(es.getD i default).val) hv (fun i hi=>a6 i RS);exact .eF ks' vs' _ es dL ⟨.inr a1,es,dL,a2⟩ a2 RS RS (fun i hi=>h2 i RS) (fun i hi=>h4 i RS)
   |eF ks vs b es dL hM hb hk hv rk rv=>simp only[iR,aW] at hc;obtain⟨ks',hk',vs',hv',rfl⟩:=hc;obtain⟨h1,h2⟩:=hlist _ _ (fun i=>(es.getD i default).key) hk' (fun i hi=>rk i RS);obtain⟨h3,h4⟩:=hlist _ _ (fun i=>(es.getD i default).val) hv' (fun i hi=>rv i RS);exact .eF ks' vs' b es dL (BZ b hM).1 hb RS RS (fun i hi=>h2 i RS) (fun i hi=>h4 i RS)
   |iface t x c hx=>simp only[aW] at hc;obtain⟨x',hx',rfl⟩:=hc;exact .iface t x' c (ih _ _ _ hx hx')
   |_=>simp at hc
end
def Qu (E:Env)(I:Nat->Nat->Prop)(IM:Nat->Prop)(w:World):Prop:=
 (∀b o,I b o->∃v,w.cell? (at_ b o)=some v)/\(∀b,IM b->∃es dL,w.heap[b]? =some (.map es dL))/\
 ∀g cs,E.glob g=some cs->Rel (bq.lend I IM) (fun _=>0) w (.aX cs 0) (.pointer (some (at_ g 0)))
def anB (I:Nat->Nat->Prop)(IM:Nat->Prop)(w:World)(v:V):Ending->World->Prop
 |.returned c,w'=>Below w.heap.size w w'/\Rel (bq.lend (grow I w.heap.size w') (xU IM w.heap.size w')) (fun _=>0) w' v c
 |_,_=>False
def tX (E:Env)(f:FuncId)(args:List V)(v:V):Prop:=
 GQ E f/\∀I IM w dU,Qu E I IM w->RelA (bq.lend I IM) (fun _=>0) w args dU->CallsIn Fence.wide 0 E.P f dU w (anB I IM w v)
structure qg (E:Env):Prop where
 name:∀(f:FuncId)(fn:Func),E.P.funcs[f]? =some fn->fn.name≠ "runtime.NumGoroutine"
 mV:∀f g,E.mV f=some g->∀args v,g args=some v->tX E f args v
 mixed:E.P.follows .mixedOrders=true
 flat:∀g cs,E.glob g=some cs->bQ cs=true
section
variable {E:Env}{S:iN}{K K':bq}{T T':Nat->Nat}{w w':World}{Z Z':ah}{B0:Nat}
theorem Rel.Li {I:Nat->Nat->Prop}{IM:Nat->Prop}{v:V}{c:Value}(h:Rel (bq.lend I IM) T w v c)(hI:∀b o,I b o->K'.I b o/\w'.cell? (at_ b o)=w.cell? (at_ b o))(hM:∀b,IM b->K'.IM b/\w'.heap[b]? =w.heap[b]?):Rel K' T' w' v c:=by
 generalize hK:bq.lend I IM=K at h;induction h with
 |int k n=>exact .int k n|bool b=>exact .bool b|str s b h=>exact .str s b h|gU=>exact .gU|gH=>exact .gH|gP=>exact .gP|iH=>exact .iH|agg cs vs hl _ ih=>exact .agg cs vs hl (fun i hi=>ih i hi)
 |bK cs vs hl _ ih=>exact .bK cs vs hl (fun i hi=>ih i hi)
 |gD c a ha hc=>
  cases c with
  |own n s=>subst hK;exact hc.1.elim|_=>exact .gD _ a ha trivial
 |ak c l b o n cap val hle hn hcell _ hc ih=>
  refine .ak c l b o n cap val hle hn (fun i j hi hj=>?_) ih ?_
  .obtain⟨h1,h2⟩:=hcell i j hi hj;subst hK;obtain⟨g1,g2⟩:=hI _ _ h2;exact⟨g2.trans h1,g1⟩
  .cases c with
   |own n s=>subst hK;exact hc.2.1.elim|sh=>trivial|full=>exact hc|nil=>exact hc
 |aU loc s off len cap bD ag fq hA hc hle hsz=>subst hK;exact hA.elim|om loc s bD ag hA=>subst hK;exact hA.elim|aX cs off b o val hcell _ ih=>refine .aX cs off b o val (fun j hj=>?_) ih;obtain⟨h1,h2⟩:=hcell j hj;subst hK;obtain⟨g1,g2⟩:=hI _ _ h2;exact⟨g2.trans h1,g1⟩
 |ref loc s off hA=>subst hK;exact hA.elim|fn f a b kI bv ha hb _ _ iha ihb=>exact .fn f a b kI bv ha hb iha ihb|yield l hA=>subst hK;exact hA.elim|dQ loc s hA=>subst hK;exact hA.elim|eF ks vs b es dL hM' hb hk hv _ _ ihk K4=>subst hK;obtain⟨g1,g2⟩:=hM b hM';exact .eF ks vs b es dL g1 (g2.trans hb) hk hv ihk K4
 |iface t v c _ ih=>exact .iface t v c ih|raw v=>exact .raw v
theorem Qv {B b o:Nat}(h:Below B w w')(hb:b<B):w'.cell? (at_ b o)=w.cell? (at_ b o):=cell_of_heap (h.block b hb)
theorem VB {I:Nat->Nat->Prop}{IM:Nat->Prop}(h:Qu E I IM w):bG E w.heap.size ah.init (bq.lend I IM) w where
 obj loc s ob hs:=by simp[ah.init] at hs
 own s hs:=hs.elim
 I b o hi:=⟨h.1 b o hi,fun loc e=>by simp[bq.lend] at e⟩
 IM b hi:=⟨h.2.1 b hi,fun loc e=>by simp[bq.lend] at e⟩
 loop l r hl:=by simp[ah.init] at hl
 glob g cs hg:=by have:=h.2.2 g cs hg;exact this.Li (fun _ _ h=>⟨h,rfl⟩) (fun _ h=>⟨h,rfl⟩)
 rb b r hr:=by simp[bq.lend] at hr
 D b hd:=hd.elim
theorem aeB (hE:qg E)(hS:Ey E S.call){f:FuncId}{args:List V}{v:V}(h:lZ E S f args=some v):tX E f args v:=by
 unfold lZ at h;split at h
 .rename_i g hg;exact hE.mV f g hg args v h
 .simp only[iR] at h;obtain⟨⟨v0,Z1⟩,hc,h⟩:=h;obtain⟨_,hb,hs⟩:=hS _ _ _ _ _ _ hc;refine⟨hb,fun I IM w dU hl hr=>?_⟩;have hr':RelA (bq.lend I IM) ah.init.top w args dU:=hr;refine(hs none w.heap.size (bq.lend I IM) w dU (VB hl) (mF _) (fun s hs=>hs.elim) hr').mono ?_;intro e w' hp;cases e with
  |returned c=>
   obtain⟨K1,r1,s1,_,st⟩:=hp;refine⟨st.below,?_⟩;have:=VA (T':=fun _=>0) s1 20 v0 v c r1 h;refine this.Li (fun b o hi=>⟨⟨?_,hi.2⟩,rfl⟩) (fun b hi=>⟨⟨?_,hi.2⟩,rfl⟩)
   .rcases hi.1 with h1|h1
    .exact st.y8 b o h1
    .exact .inr h1
   .rcases hi.1 with h1|h1
    .exact st.y9 b h1
    .exact .inr h1
  |panicked ch=>exact hp.elim|outgrown=>exact hp.elim
theorem Step.grow (h:bG E B0 Z K w)(hB:B0<=w.heap.size){new:Nat->Prop}(hb:Below w.heap.size w w'):
 Step E B0 new Z K w Z {K with I:=aR.grow K.I w.heap.size w',IM:=xU K.IM w.heap.size w'} w':=by
 have Am:∀b o,K.I b o->w'.cell? (at_ b o)=w.cell? (at_ b o):=fun b o hi=>Qv hb (lt_of_cell (h.I b o hi).1.choose_spec);have BZ:∀b,K.IM b->w'.heap[b]? =w.heap[b]? :=fun b hi=>by obtain⟨⟨es,dL,h1⟩,_⟩:=h.IM b hi;exact hb.block b (lt_of_heap h1)
 have e:Ext K Z.top w {K with I:=aR.grow K.I w.heap.size w',IM:=xU K.IM w.heap.size w'} Z.top w':=
  ⟨fun _ h=>⟨h,rfl,rfl,rfl⟩,fun _ _=>.inl ⟨rfl,rfl,rfl,rfl⟩,fun b o hi=>⟨⟨.inl hi,by rw[Am b o hi];exact(h.I b o hi).1⟩,Am b o hi⟩,
    fun b hi=>⟨⟨.inl hi,by rw[BZ b hi];exact(h.IM b hi).1⟩,BZ b hi⟩⟩
 refine⟨⟨fun loc s ob hs=>?_,fun s hs hl=>?_,fun b o hi=>⟨hi.2,?_⟩,fun b hi=>⟨hi.2,?_⟩,fun l r hl=>?_,fun g cs hg=>(h.glob g cs hg).ext e,fun b r hr=>?_,fun b hd=>?_⟩,e,
  ⟨hb.os,hb.tape,hb.output,hb.size,fun k hk=>hb.block k RS⟩,fun _ h=>h,fun _ h=>.inl h,fun b o hi=>hi.1.imp id RS,fun b hi=>hi.1.imp id RS⟩
 .obtain⟨a1,a2,a3⟩:=h.obj loc s ob hs;exact⟨a1,a2.ext e a1 (fun hr=>hb.block _ (h.rb _ _ (a3 hr)).1),a3⟩
 .obtain⟨a1,a2,a3⟩:=h.own s hs hl;have hlt:=(h.rb _ _ a2).1;refine⟨a1,a2,fun o h1 h2=>?_⟩;obtain⟨c1,⟨v,c2⟩,c3⟩:=a3 o h1 h2;refine⟨fun hi=>?_,⟨v,(Qv hb hlt).trans c2⟩,?_⟩
  .rcases hi.1 with h1|h1
   .exact c1 h1
   .have:w.heap.size<=K.ob s:=h1;omega
  .rw[frozen_of_heap (hb.block _ hlt)];exact c3
 .intro loc gJ;rcases hi.1 with h1|h1
  .exact(h.I b o h1).2 loc gJ
  .have:=(h.rb _ _ gJ).1;omega
 .intro loc gJ;rcases hi.1 with h1|h1
  .exact(h.IM b h1).2 loc gJ
  .have:=(h.rb _ _ gJ).1;omega
 .obtain⟨a1,a2⟩:=h.loop l r hl;exact⟨a1,a2.ext e a1 (hb.block _ (h.rb _ _ a2.2.1).1) rfl⟩
 .have:=h.rb b r hr;exact⟨lW this.1 hb.size,this.2⟩
 .have:=h.D b hd;rw[hb.block b (lt_of_heap this)];exact this
def bq.pI (K:bq)(B:Nat)(w':World)(st ob lo hi:Nat):bq:=
 {K with A:=fun x=>K.A x\/x=st,ob:=upd K.ob st ob,lo:=upd K.lo st lo,hi:=upd K.hi st hi,I:=fun b o=>aR.grow K.I B w' b o/\¬(b=ob/\lo<=o/\o<hi),IM:=xU K.IM B w',C:=fun b=>if b=ob/\lo<hi then some (.own st) else K.C b}
theorem Step.pI (h:bG E B0 Z K w)(hB:B0<=w.heap.size){st T1:Nat}(hst:¬K.A st)(hb:Below w.heap.size w w'){ob lo hi:Nat}(ho:lo<hi->w.heap.size<=ob/\∀o,lo<=o->o<hi->(∃v,w'.cell? (at_ ob o)=some v)/\w'.frozen? (at_ ob o)=false):
 Step E B0 (· =st) Z K w (Z.dY st T1) (K.pI w.heap.size w' st ob lo hi) w':=by
 have Am:∀b o,K.I b o->w'.cell? (at_ b o)=w.cell? (at_ b o):=fun b o hi=>Qv hb (lt_of_cell (h.I b o hi).1.choose_spec);have BZ:∀b,K.IM b->w'.heap[b]? =w.heap[b]? :=fun b hi=>by obtain⟨⟨es,dL,h1⟩,_⟩:=h.IM b hi;exact hb.block b (lt_of_heap h1)
 have hne:∀x,K.A x->x≠st:=fun x hx e=>hst (e▸hx);have VD:∀b,b<w.heap.size->(K.pI w.heap.size w' st ob lo hi).C b=K.C b:=fun b hbl=>by show (if b=ob/\lo<hi then some (Gs.own st) else K.C b)=K.C b;rw[if_neg];rintro⟨rfl,h2⟩;have:=(ho h2).1;omega
 have hold:∀b o,b<w.heap.size->¬(b=ob/\lo<=o/\o<hi):=by rintro b o hbl ⟨rfl,h2,h3⟩;have:=(ho RS).1;omega
 have e:Ext K Z.top w (K.pI w.heap.size w' st ob lo hi) (Z.dY st T1).top w':=
  ⟨fun _ h=>⟨.inl h,rfl,rfl,rfl⟩,fun x hx=>.inl ⟨upd_ne _ _ (hne x hx),upd_ne _ _ (hne x hx),upd_ne _ _ (hne x hx),upd_ne _ _ (hne x hx)⟩,
    fun b o hi=>⟨⟨⟨.inl hi,by rw[Am b o hi];exact(h.I b o hi).1⟩,hold b o (lt_of_cell (h.I b o hi).1.choose_spec)⟩,Am b o hi⟩,
    fun b hi=>⟨⟨.inl hi,by rw[BZ b hi];exact(h.IM b hi).1⟩,BZ b hi⟩⟩
 refine⟨⟨fun loc s x hs=>?_,fun s hs hl=>?_,fun b o hq=>⟨hq.1.2,?_⟩,fun b hq=>⟨hq.2,?_⟩,fun l r hl=>?_,fun g cs hg=>(h.glob g cs hg).ext e,fun b r hr=>?_,fun b hd=>?_⟩,e,
  ⟨hb.os,hb.tape,hb.output,hb.size,fun k hk=>hb.block k RS⟩,fun _ h=>h,fun _ h=>h,fun b o hi=>hi.1.1.imp id RS,fun b hi=>hi.1.imp id RS⟩
 .obtain⟨a1,a2,a3⟩:=h.obj loc s x hs;refine⟨.inl a1,a2.ext e a1 (fun hr=>hb.block _ (h.rb _ _ (a3 hr)).1),fun hr=>?_⟩;show (K.pI w.heap.size w' st ob lo hi).C (K.blk s)=_;rw[VD _ (h.rb _ _ (a3 hr)).1];exact a3 hr
 .by_cases hxs:s=st
  .subst hxs;have q1:(K.pI w.heap.size w' s ob lo hi).ob s=ob:=upd_same _ _ _;have q2:(K.pI w.heap.size w' s ob lo hi).lo s=lo:=upd_same _ _ _;have q3:(K.pI w.heap.size w' s ob lo hi).hi s=hi:=upd_same _ _ _;rw[q2,q3] at hl;obtain⟨o1,o2⟩:=ho hl;refine⟨by rw[q1];omega,?_,fun o h1 h2=>?_⟩
   .rw[q1];show (if ob=ob/\lo<hi then some (Gs.own s) else K.C ob)=_;rw[if_pos ⟨rfl,hl⟩]
   .rw[q2] at h1;rw[q3] at h2;rw[q1];exact⟨fun hI=>hI.2 ⟨rfl,h1,h2⟩,(o2 o h1 h2).1,(o2 o h1 h2).2⟩
  .have hA:K.A s:=hs.resolve_right hxs;have q1:(K.pI w.heap.size w' st ob lo hi).ob s=K.ob s:=upd_ne _ _ hxs;have q2:(K.pI w.heap.size w' st ob lo hi).lo s=K.lo s:=upd_ne _ _ hxs;have q3:(K.pI w.heap.size w' st ob lo hi).hi s=K.hi s:=upd_ne _ _ hxs;rw[q2,q3] at hl;obtain⟨a1,a2,a3⟩:=h.own s hA hl;have hlt:=(h.rb _ _ a2).1;refine⟨by rw[q1];exact a1,by rw[q1,VD _ hlt];exact a2,fun o h1 h2=>?_⟩;rw[q2] at h1;rw[q3] at h2;rw[q1];obtain⟨c1,⟨v,c2⟩,c3⟩:=a3 o h1 h2;refine⟨fun hi=>?_,⟨v,(Qv hb hlt).trans c2⟩,?_⟩
   .rcases hi.1.1 with h1|h1
    .exact c1 h1
    .omega
   .rw[frozen_of_heap (hb.block _ hlt)];exact c3
 .intro loc gJ;have Ao:(if b=ob/\lo<hi then some (Gs.own st) else K.C b)=some (.obj loc):=gJ;split at Ao
  .cases Ao
  .rcases hq.1.1 with h1|h1
   .exact(h.I b o h1).2 loc Ao
   .have:=(h.rb _ _ Ao).1;omega
 .intro loc gJ;have Ao:(if b=ob/\lo<hi then some (Gs.own st) else K.C b)=some (.obj loc):=gJ;split at Ao
  .cases Ao
  .rcases hq.1 with h1|h1
   .exact(h.IM b h1).2 loc Ao
   .have:=(h.rb _ _ Ao).1;omega
 .obtain⟨a1,a2⟩:=h.loop l r hl;exact⟨.inl a1,a2.ext e a1 (hb.block _ (h.rb _ _ a2.2.1).1) (VD _ (h.rb _ _ a2.2.1).1)⟩
 .have hr':(if b=ob/\lo<hi then some (Gs.own st) else K.C b)=some r:=hr;split at hr'
  .rename_i hc;obtain⟨o1,o2⟩:=ho hc.2;obtain⟨⟨v,hv⟩,_⟩:=o2 lo (mF _) hc.2;rw[hc.1];exact⟨lt_of_cell hv,RS⟩
  .have:=h.rb b r hr';exact⟨lW this.1 hb.size,this.2⟩
 .have:=h.D b hd;rw[hb.block b (lt_of_heap this)];exact this
end
section
variable {E:Env}{S:iN}{K K':bq}{w w':World}{Z Z':ah}{B0:Nat}
theorem VE (w:World)(b:Nat)(o:Obj):Only b w (w.putObj b o):=⟨rfl,rfl,rfl,aB,fun _ hk _=>World.putObj_heap_other hk⟩
theorem Step.mR (h:bG E B0 Z K w)(hB:B0<=w.heap.size){new:Nat->Prop}{l:Nat}{r r':Em}(hl:Z.loops l=some r)(h1:r'.fr=r.fr)(h2:r'.ps=r.ps)(h3:r'.gq=r.gq)(h4:r'.body=r.body){rec:Go.Loop}(hr:w.heap[K.lp l]? =some (.loop rec)):
 Step E B0 new Z K w (Z.mR l r') K (w.putObj (K.lp l) (.loop {rec with state:=tN r'.st,pending:=r'.pend.bind u7})):=by
 obtain⟨hA,hb0,gJ,fn,tmps,D,hh,hf,hok⟩:=h.loop l r hl;have hrec:rec={state:=tN r.st,pending:=r.pend.bind u7,fn:=fn,tmps:=tmps,params:=r.ps.toArray,assign:=r.gq,body:=r.body,defers:=D}:=by rw[hh] at hr;simpa using hr.symm
 have hlt:=lt_of_heap hr;have ho:=VE w (K.lp l) (.loop {rec with state:=tN r'.st,pending:=r'.pend.bind u7});have hnew:(w.putObj (K.lp l) (.loop {rec with state:=tN r'.st,pending:=r'.pend.bind u7})).heap[K.lp l]? =some (.loop {rec with state:=tN r'.st,pending:=r'.pend.bind u7}):=World.putObj_heap_same hlt;have hcell:∀b o v,w.cell? (at_ b o)=some v->b≠K.lp l:=fun b o v hv e=>by subst e;simp[World.cell?,hr] at hv
 have e:Ext K Z.top w K Z.top (w.putObj (K.lp l) (.loop {rec with state:=tN r'.st,pending:=r'.pend.bind u7})):=by
  refine⟨fun _ h=>⟨h,rfl,rfl,rfl⟩,fun _ _=>.inl ⟨rfl,rfl,rfl,rfl⟩,fun b o hi=>⟨hi,?_⟩,fun b hi=>⟨hi,?_⟩⟩
  .obtain⟨⟨v,hv⟩,_⟩:=h.I b o hi;exact cell_of_heap (ho.block b (hcell b o v hv) (lt_of_cell hv))
  .obtain⟨⟨es,dL,hv⟩,_⟩:=h.IM b hi;exact ho.block b (tO hv hr aB) (lt_of_heap hv)
 refine⟨?_,e,ho.below hb0 hB,fun _ h=>h,fun _ h=>.inl h,fun _ _ h=>.inl h,fun _ h=>.inl h⟩;refine h.upd (Z':=Z.mR l r') ho e (fun _ _=>rfl) (fun r hr'=>⟨by simpa using hlt,hb0⟩) ?_ ?_ ?_ ?_ ?_ ?_
 .intro loc s ob hs;refine .inl ⟨hs,fun mX=>?_⟩;intro e';have:=(h.obj loc s ob hs).2.2 mX;rw[e',gJ] at this;cases this
 .intro s hs hlt';refine .inl ⟨hs,rfl,rfl,rfl,fun e'=>?_⟩;have:=(h.own s hs hlt').2.1;rw[e',gJ] at this;cases this
 .intro b' o hi;obtain⟨⟨v,hv⟩,_⟩:=h.I b' o hi;exact .inl ⟨hi,hcell b' o v hv⟩
 .intro b' hi;obtain⟨⟨es,dL,hv⟩,_⟩:=h.IM b' hi;exact .inl ⟨hi,tO hv hr aB⟩
 .intro l' r1 hl';by_cases hll:l'=l
  .subst hll;right;have hr1:r'=r1:=by simpa [ah.mR,upd] using hl'
   subst hr1;refine⟨hA,hb0,gJ,fn,tmps,D,?_,?_,?_⟩
   .rw[hnew,hrec,h2,h3,h4]
   .rw[h1];exact hf.ext e
   .rw[h2,h3,h4];exact hok
  .left;have hl1:Z.loops l'=some r1:=by simpa [ah.mR,upd,hll] using hl'
   refine⟨hl1,fun e'=>?_⟩;have:=(h.loop l' r1 hl1).2.2.1;rw[e',gJ] at this;cases this;exact hll rfl
 .intro b' hd;exact .inl ⟨hd,tO (h.D b' hd) hr aB⟩
theorem anC {T:Nat->Nat}:∀(ps:List Nat)(args:List V)(cs:List Value)(fr:Fr)(tmps:Array Value),ps.length=args.length->args.length=cs.length->l6 K T w fr tmps->(∀i,i<args.length->Rel K T w (args.getD i aJ) (cs.getD i undef))->(∀p∈ps,p<tmps.size)->l6 K T w {fr with tm:=(ps.zip args).foldl (fun tm (p,a)=>upd tm p a) fr.tm} ((ps.zip cs).foldl (fun tmps (t,a)=>tmps.setIfInBounds t a) tmps)/\
   ((ps.zip cs).foldl (fun tmps (t,a)=>tmps.setIfInBounds t a) tmps).size=tmps.size:=by
 intro ps;induction ps with
 |nil=>intro args cs fr tmps _ _ hf _ _;exact⟨hf,rfl⟩|cons p ps ih=>
  intro args cs fr tmps hl hl2 hf hr hp;cases args with
  |nil=>simp at hl|cons a args=>
   cases cs with
   |nil=>simp at hl2|cons c cs=>have hput:=l6.put (K:=K) (w:=w) (T:=T) (a:={tmps:=tmps,defers:=[]}) hf (d:=some p) (v:=a) (c:=c) (hr 0 aB) (fun i hi=>by cases hi;exact hp p aB);have:=ih args cs (fr.set p a) (tmps.setIfInBounds p c) xH (by simpa using hl2) hput (fun i hi=>hr (i+1) jH) (fun q hq=>by simpa using hp q (by simp[hq]));refine⟨this.1,this.2.trans aB⟩
theorem zip_toArray (ps:List Nat)(cs tmps:Array Value):(ps.toArray.zip cs).foldl (fun tmps (t,a)=>tmps.setIfInBounds t a) tmps=(ps.zip cs.toList).foldl (fun tmps (t,a)=>tmps.setIfInBounds t a) tmps:=by
 rw[<-Array.foldl_toList];congr 1;simp
theorem anD (hS:GN E S.code)(h:bG E B0 Z K w)(hB:B0<=w.heap.size)(hA:∀s,K.A s->s<Z.next){l:Nat}{args:List V}{dU:Array Value}{v:V}(hv:xQ S l args Z=some (v,Z'))(ra:RelA K Z.top w args dU):
 Z.next<=Z'.next/\∃fn tmps gq body,(Instr.yield (K.lp l) dU).run E.P w= .ok (.round (K.lp l) fn tmps gq body) w/\RoundIn Fence.wide 0 E.P (K.lp l) fn tmps gq body w (wJ E B0 Z K w v Z'):=by
 unfold xQ at hv;simp only[iR] at hv;obtain⟨r,hl,hv⟩:=hv;split at hv
 .rename_i hst;simp only[iR] at hv;obtain⟨⟨e1,bJ,Z1⟩,Lj,hv⟩:=hv;cases e1 with
  |normal=>
   simp only[iR] at hv;obtain⟨r1,hl1,hv⟩:=hv;split at hv
   .rename_i GU;simp only[iR] at hv;obtain⟨⟨e2,iW,Z2⟩,hbody,r2,hl2,hv⟩:=hv;split at hv
    .rename_i aAM;obtain⟨anE,hb0,gJ,fn,tmps,D,hh,hf,hok1,hok2,hps,hn1,hn2⟩:=h.loop l r hl;obtain⟨hle1,hw1⟩:=hS _ _ _ _ _ _ Lj;obtain⟨hle2,hw2⟩:=hS _ _ _ _ _ _ hbody;have anF:Z1.next<=Z2.next:=hle2;have hnext:Z'.next=Z2.next:=by
      cases e2<;>simp only[iE,aS] at hv<;>obtain⟨_,rfl⟩:=hv<;>rfl
     refine⟨RS,?_⟩;have hsz:dU.size=r.ps.length:=(by have:=ra.1;omega);have VF:=run_yield (P:=E.P) (args:=dU) hh (by simpa using hsz);refine⟨_,_,_,_,VF,?_⟩;dsimp only;rw[zip_toArray];have VG:=anC (K:=K) (w:=w) (T:=Z.top) r.ps args dU.toList r.fr tmps hst.2 (by have:=ra.1;simpa using this) hf (fun i hi=>by rw[Qm];exact ra.2 i hi) hps;generalize aAN:(r.ps.zip dU.toList).foldl (fun tmps (t,a)=>tmps.setIfInBounds t a) tmps=anG at VG;refine roundIn_of_wpIn trivial ?_;have hs0:St E B0 Z K w {r.fr with tm:=(r.ps.zip args).foldl (fun tm (p,a)=>upd tm p a) r.fr.tm} {tmps:=anG,defers:=[]} tmps.size ⟨[],0,true⟩:=
      ⟨h,hB,VG.1,VG.2,⟨[],rfl,List.nodup_nil,(fun b hb=>by cases hb),fun _=>rfl⟩,hA,qA _⟩
     refine wpIn_mono (hw1 (some (K.lp l)) B0 K w _ tmps.size ⟨[],0,true⟩ hs0 hok1 (.inr hn1)) ?_;rintro x a1 w1 ⟨hx,K1,hs1,st1⟩;cases x<;>simp only[mY] at hx;obtain⟨anH,hb1,aAO,aeC,aeD,D1,aeE,hf1,_⟩:=hs1.ok.loop l r1 hl1;have GV:K1.lp l=K.lp l:=(st1.ext.A l anE).2.2.1;have hbr:=run_beginRound (P:=E.P) aeE (by simp[tN,GU]);have Qw:=Step.mR (new:=newer Z1 (Z1.mR l {r1 with st:=1})) hs1.ok hs1.hB (r':={r1 with st:=1}) hl1 rfl rfl rfl rfl aeE;rw[GV] at hbr;refine⟨_,hbr,?_⟩;have anI:(w1.putObj (K.lp l) (.loop {state:=LoopState.busy,pending:=r1.pend.bind u7,fn:=aeC,tmps:=aeD,params:=r1.ps.toArray,assign:=r1.gq,body:=r1.body,defers:=D1}))=
      (w1.putObj (K1.lp l) (.loop {({state:=tN r1.st,pending:=r1.pend.bind u7,fn:=aeC,tmps:=aeD,params:=r1.ps.toArray,assign:=r1.gq,body:=r1.body,defers:=D1}:Go.Loop) with state:=tN 1,pending:=r1.pend.bind u7})):=by
      rw[GV];rfl
     dsimp only;rw[anI];have anJ:St E B0 (Z1.mR l {r1 with st:=1}) K1 _ bJ a1 tmps.size ⟨[],0,true⟩:=
      ⟨Qw.ok,eO hs1.hB Qw.below.size,hs1.fr.ext Qw.ext,hs1.sz,hs1.df,hs1.st,qA _⟩
     have st01:=Step.trans (new:=newer Z Z1) st1 (Qw.mono (fun s hs=>by have h1:Z1.next<=s:=hs.1;have h2:s<Z1.next:=hs.2;omega));refine wpIn_mono (hw2 (some (K.lp l)) B0 K1 _ a1 tmps.size ⟨[],0,true⟩ anJ hok2 (.inr hn2)) ?_;rintro x a2 w2 ⟨hx2,K2,hs2,st2⟩;obtain⟨aAP,hb2,aAQ,anK,anL,D2,aeF,hf2,_⟩:=hs2.ok.loop l r2 hl2;have Qx:K2.lp l=K.lp l:=((st2.ext.A l anH).2.2.1).trans GV;have rD:Step E B0 (newer Z Z2) Z K w Z2 K2 w2:=by
      refine(st01.mono ?_).trans (st2.mono ?_)
      .intro s hs;exact⟨hs.1,lW hs.2 anF⟩
      .intro s hs;exact⟨eO hle1 hs.1,hs.2⟩
     have fin:∀(r':Em)(b:Bool),r'.fr=r2.fr->r'.ps=r2.ps->r'.gq=r2.gq->r'.body=r2.body->Z'=Z2.mR l r'->v= .bool b->
      wJ E B0 Z K w v Z' (.returned (.bool b)) (w2.putObj (K2.lp l) (.loop {({state:=tN r2.st,pending:=r2.pend.bind u7,fn:=anK,tmps:=anL,params:=r2.ps.toArray,assign:=r2.gq,body:=r2.body,defers:=D2}:Go.Loop) with state:=tN r'.st,pending:=r'.pend.bind u7})):=by
      intro r' b h1 h2 h3 h4 h5 h6;have anM:=Step.mR (new:=newer Z Z2) hs2.ok hs2.hB (r':=r') hl2 h1 h2 h3 h4 aeF;subst h5 h6;have Qy:=rD.trans anM;exact⟨K2,.bool b,Qy.ok,hs2.st,Qy⟩
     have hend:=fun jump=>run_endRound (P:=E.P) jump aeF;rw[Qx] at hend;cases e2 with
     |normal=>
      cases x<;>simp only[mY] at hx2;simp only[iE,aS] at hv;refine⟨_,_,hend none,?_⟩;have:=fin {r2 with st:=0,pend:=none} true rfl rfl rfl rfl hv.2.symm hv.1.symm;rw[Qx] at this;exact this
     |exit i=>
      cases x<;>simp only[mY] at hx2;subst hx2;simp only[iE,aS] at hv;refine⟨_,_,hend (some (.exit i)),?_⟩;have:=fin {r2 with st:=2,pend:=some (.exit i)} false rfl rfl rfl rfl hv.2.symm hv.1.symm;rw[Qx] at this;exact this
     |ret=>
      cases x<;>simp only[mY] at hx2;simp only[iE,aS] at hv;refine⟨_,_,hend (some .ret),?_⟩;have:=fin {r2 with st:=2,pend:=some .ret} false rfl rfl rfl rfl hv.2.symm hv.1.symm;rw[Qx] at this;exact this
    .simp at hv
   .simp at hv
  |exit i=>simp at hv|ret=>simp at hv
 .simp at hv
theorem anN (hS:GN E S.code){l:Nat}{args:List V}{v:V}(hv:xQ S l args Z=some (v,Z')):Z.next<=Z'.next:=by
 unfold xQ at hv;simp only[iR] at hv;obtain⟨r,hl,hv⟩:=hv;split at hv
 .simp only[iR] at hv;obtain⟨⟨e1,bJ,Z1⟩,Lj,hv⟩:=hv;cases e1 with
  |normal=>
   simp only[iR] at hv;obtain⟨r1,hl1,hv⟩:=hv;split at hv
   .simp only[iR] at hv;obtain⟨⟨e2,iW,Z2⟩,hbody,r2,hl2,hv⟩:=hv;split at hv
    .have h1:=(hS _ _ _ _ _ _ Lj).1;have h2:Z1.next<=Z2.next:=(hS _ _ _ _ _ _ hbody).1;have h3:Z'.next=Z2.next:=by
      cases e2<;>simp only[iE,aS] at hv<;>obtain⟨_,rfl⟩:=hv<;>rfl
     omega
    .simp at hv
   .simp at hv
  |exit i=>simp at hv|ret=>simp at hv
 .simp at hv
end
end aR
end
