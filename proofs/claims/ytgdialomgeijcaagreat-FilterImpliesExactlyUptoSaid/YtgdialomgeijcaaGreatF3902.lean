import Derived.Deep.Upon
import Derived.RangeFuncLeaves
import Derived.Test.YtgdialomgeijcaaGreatF3901
set_option linter.all false
section
namespace Aq
open Go Go.RowKit
section
variable {E:Env}{B0:Nat}{Y:qd}{K:Ra}{w:World}{new:Nat->Prop}{T:Nat->Nat}
theorem Step.imp {new new' Y' K' w'}(h:Step E B0 new Y K w Y' K' w')(hn:∀s,new s->K.A s\/new' s):Step E B0 new' Y K w Y' K' w':=
 ⟨h.ok,h.ext,h.below,h.D,fun s hs=>(h.A s hs).elim .inl (hn s),h.nI,h.fU⟩
theorem zG {sz:Nat}{l ys:List V}{olds news:List Value}(h:cB K T w sz l olds)(g:cB K T w sz ys news)(hl:olds.length=l.length*sz):cB K T w sz (l++ys) (olds++news):=by
 intro i hi;by_cases h1:i<l.length
 .rw[eF h1];refine⟨(h i h1).1,fun j hj=>?_⟩;have:=mul_lt h1 hj;rw[eF (by omega)];exact(h i h1).2 j hj
 .have h1':l.length<=i:=Nat.not_lt.1 h1;have h2:i-l.length<ys.length:=by simp at hi;omega
  rw[eG h1'];refine⟨(g _ h2).1,fun j hj=>?_⟩;have hm:i*sz=(i-l.length)*sz+l.length*sz:=by rw[<-Qj];congr 1;omega
  rw[eG (by omega),show i*sz+j-olds.length=(i-l.length)*sz+j by omega];exact(g _ h2).2 j hj
theorem uI {sz:Nat}{ys:List V}{news:List Value}(h:cB K T w sz ys news)(hl:news.length=ys.length*sz)(hone:ys.all (fun v=>RP v.cells)=true):∀u∈news,u.oneCell'=true:=by
 intro u hu;obtain⟨q,hq,rfl⟩:=QY.1 hu;have hsz:0<sz:=by
  rcases Nat.eq_zero_or_pos sz with h0|h0
  .subst h0;omega
  .exact h0
 have hi:q/sz<ys.length:=Nat.div_lt_of_lt_mul (by rw[QA];omega);have hj:=Nat.mod_lt q hsz;obtain⟨h1,h2⟩:=h _ hi;have hr:=h2 _ hj;rw[QA,Nat.div_add_mod,cZ hq] at hr;simp only[P7,RP] at hone;have h3:=hone _ (Qw hi);rw[cZ hi] at h1 hr;have h4:=h3 _ (Qw (show q% sz<_ by omega));rw[cZ (by omega)] at hr;simpa using (y7 hr h4).1
theorem Gq (h:au E B0 Y K w){ag:Bool}{sz n:Nat}{tx e:TypeId}{z:V}{y:V}{cy cz:Value}{ys:List V}{zeros:Bool}(hy:Rel K Y.top w y cy)(hz:Rel K Y.top w z cz)(hraw:SK z=true)(hzl:z.cells.length=sz)(hag:(ag||sz==1)=true)(hk:zeros=true->∃k,E.P.underlying tx=some (.int k))(hk':zeros=false->(∃e',E.P.underlying tx=some (.slice e'))\/E.P.underlying tx=some .string)(hzi:zeros=mh y)(hv:fE Y ag sz z y=some ys)(hone:ys.all (fun v=>RP v.cells)=true)(hn:n=ys.length):∃news,iX E.P w sz n tx cz cy news/\cB K Y.top w sz ys news:=by
 subst hn;let _:=e
 have fin:∀cells,Src E.P w sz ys.length cy cells->(∀w',(Builtin.lenOf cy).run E.P w'= .ok ys.length w')->zeros=false->cB K Y.top w sz ys cells->∃news,iX E.P w sz ys.length tx cz cy news/\cB K Y.top w sz ys news:=
  fun cells hs hl Gr hr=>⟨cells,⟨hs.1,uI hr hs.1 hone,.inl ⟨hk' Gr,hl,hs.2⟩⟩,hr⟩
 cases y with
 |int k m=>
  simp only[fE] at hv;split at hv
  .rename_i hm;simp only[iE] at hv;subst hv;cases hy;obtain⟨k',hk0⟩:=hk hzi;have hr:=qL hz hraw hzl m.toNat;have hcs:cz.cells.size=sz:=by rw[<-(jq hz hraw).1,hzl]
   have hzc:Builtin.zeroCells cz.cells m.toNat=(Array.range (m.toNat*sz)).map fun i=>cz.cells[i% cz.cells.size]! :=by unfold Builtin.zeroCells;rw[hcs]
   have hlen:(List.replicate m.toNat z).length=m.toNat:=List.length_replicate;have hrc:cB K Y.top w sz (List.replicate m.toNat z) (Builtin.zeroCells cz.cells m.toNat).toList:=by intro i hi;rw[hlen] at hi;have hg:(List.replicate m.toNat z).getD i FN=z:=(by simp[List.getD,hi]);rw[hg];refine⟨hzl,fun j hj=>?_⟩;have hq:=mul_lt hi hj;have:=hr.2 (i*sz+j) (by simp[hzl];exact hq);have hm:(i*sz+j)% sz=j:=(by rw[QA,Nat.mul_add_mod,QS hj]);rw[qK z.cells sz hzl (by omega) _ _ hq,hm] at this;rw[hzc,mM];exact this
   have hnl:(Builtin.zeroCells cz.cells m.toNat).toList.length=m.toNat*sz:=by rw[hzc];simp
   refine⟨_,⟨by rw[hlen];exact hnl,uI hrc (by rw[hlen];exact hnl) hone,.inr ⟨⟨k',k,hk0,?_⟩,by rw[hlen],hcs⟩⟩,hrc⟩;rw[hlen,Int.toNat_of_nonneg hm.1]
  .simp at hv
 |tX c l=>
  simp only[fE] at hv;split at hv
  .rename_i hs;simp only[iE] at hv;subst hv;obtain⟨cells,h1,h2⟩:=Gl (E:=E) hy hs;refine fin cells h1 (fun w'=>?_) hzi h2;cases hy<;>rfl
  .simp at hv
 |str s=>
  simp only[fE] at hv;split at hv
  .rename_i hs;simp only[iE] at hv;subst hv;subst hs;obtain⟨cells,h1,h2⟩:=Gn (E:=E) (e:=e) hy;refine fin cells h1 (fun w'=>?_) hzi h2;cases hy with|str _ b hb=>
   subst hb;simp[Builtin.lenOf]
  .simp at hv
 |vw loc s off len cap aD kX=>
  simp only[fE] at hv;split at hv
  .simp at hv
  .rename_i he;have he:aD=sz:=by simpa using he
   subst he;simp only[iP] at hv;obtain⟨cs,hcs,hv⟩:=hv;split at hv
   .rename_i hc;simp only[iE] at hv;subst hv;obtain⟨cells,h1,h2⟩:=Gp h hy hcs hc.1 hag hc.2;refine fin cells h1 (fun w'=>?_) hzi h2;rw[PY,iD];cases hy<;>rfl
   .simp at hv
 |_=>simp[fE] at hv
theorem Step.zH {E B0 Y K w}(h:au E B0 Y K w)(s T' b lo:Nat)(hs:¬K.A s):
 Step E B0 (· =s) Y K w (Y.R9 s T') {K with A:=fun x=>K.A x\/x=s,ob:=upd K.ob s b,lo:=upd K.lo s lo,hi:=upd K.hi s lo} w:=by
 have hne:∀x,K.A x->x≠s:=fun x hx e=>hs (e▸hx);have e:Ext K Y.top w {K with A:=fun x=>K.A x\/x=s,ob:=upd K.ob s b,lo:=upd K.lo s lo,hi:=upd K.hi s lo} (Y.R9 s T').top w:=
  ⟨fun _ h=>⟨.inl h,rfl,rfl,rfl⟩,fun x hx=>.inl ⟨upd_ne _ _ (hne x hx),upd_ne _ _ (hne x hx),upd_ne _ _ (hne x hx),upd_ne _ _ (hne x hx)⟩,fun b i hi=>⟨hi,rfl⟩,fun b hb=>⟨hb,rfl⟩⟩
 refine⟨?_,e,.refl _ _,fun b hb=>hb,fun _ h=>h,fun b o hi=>.inl hi,fun _ h=>.inl h⟩;refine⟨fun loc x ob hx=>?_,fun x hx hlt=>?_,h.I,h.IM,fun l r hl=>?_,fun g cs hg=>(h.glob g cs hg).ext e,h.rb,h.D⟩
 .obtain⟨a1,a2,a3⟩:=h.obj loc x ob hx;exact⟨.inl a1,a2.ext e a1 (fun _=>rfl),a3⟩
 .by_cases hxs:x=s
  .subst hxs;simp only[upd_same] at hlt;omega
  .simp only[upd_ne _ _ hxs] at hlt;have:=h.own x (hx.resolve_right hxs) hlt;exact⟨by simpa only[upd_ne _ _ hxs] using this.1,by simpa only[upd_ne _ _ hxs] using this.2.1,
    fun o p q=>by simpa only[upd_ne _ _ hxs] using this.2.2 o (by simpa only[upd_ne _ _ hxs] using p) (by simpa only[upd_ne _ _ hxs] using q)⟩
 .obtain⟨a1,a2⟩:=h.loop l r hl;exact⟨.inl a1,a2.ext e a1 rfl rfl⟩
theorem au.drew (h:au E B0 Y K w):au E B0 Y K w.drew:=h.same rfl
theorem Step.draw (h:au E B0 Y K w):Step E B0 new Y K w Y K w.drew:=Step.same h rfl rfl rfl rfl
theorem zI {olds news:List Value}{zs:Array Value}{q:Nat}(hq:q< (olds++news).length):((olds++news).toArray++zs).getD q undef=(olds++news).getD q undef:=by
 have:q< ((olds++news).toArray++zs).size:=by simp at hq⊢;omega
 have hl:q< (olds++news).toArray.size:=by simpa using hq
 simp only[Array.getD,this,dif_pos];show ((olds++news).toArray++zs)[q]=_;rw[Array.getElem_append_left hl,cZ hq];simp
theorem qN (h:au E B0 Y K w)(hB:B0<=w.heap.size){t tx ty e:TypeId}{i:TypeInfo}{z:Value}{n sLen sCap s:Nat}{cx:Value}{olds news:List Value}{base:Option Addr}{l ys:List V}(ht:E.P.underlying t=some (.slice e))(hi:E.P.info? e=some i)(hz:i.zero=some z)(hzs:z.cells.size=i.size)(hl:sLen=l.length)(hn:n=ys.length)(hs:iX E.P w i.size n tx z cx news)(hold:∀w',w'.heap=w.heap->(Builtin.firstCells i.size sLen (.slice base sLen sCap)).run E.P w'= .ok olds.toArray w')(hol:olds.length=sLen*i.size)(h47:sLen+n<=2^47)(hb:(sLen+n)*i.bytes<=2^47)(hroom:sCap<sLen+n)(rl:cB K Y.top w i.size l olds)(ry:cB K Y.top w i.size ys news)(hst:¬K.A s\/Y.top s<sLen+n):
 Done E B0 (· =s) Y K w (Builtin.append_ #[t,tx] ty #[.slice base sLen sCap,cx]) (.tX (.own i.size s) (l++ys)) (Y.R9 s (sLen+n)):=by
 have hrun:=run_append_grow' (ty:=ty) ht hi hz hs hold h47 hb hroom;have hge:=grownCap_ge w (sLen+n) sCap e;generalize grownCap w (sLen+n) sCap e=nc at hrun hge;have hlen:(olds++news).length=(sLen+n)*i.size:=by rw[PU,hol,hs.len,Qj]
 have hvs:((olds++news).toArray++Builtin.zeroCells z.cells (nc-(sLen+n))).size=nc*i.size:=by
  rw[Array.size_append];have:(olds++news).toArray.size=(sLen+n)*i.size:=by simpa using hlen
  rw[this];simp only[Builtin.zeroCells,Array.size_map,Array.size_range,hzs];rw[<-Qj];congr 1;omega
 have hlo:(sLen+n)*i.size<=((olds++news).toArray++Builtin.zeroCells z.cells (nc-(sLen+n))).size:=by rw[hvs];exact Qm _ hge
 have hstep:=(Step.draw (new:=(· =s)) h).trans (Step.FD (w:=w.drew) h.drew hB s (sLen+n) hst ((olds++news).toArray++Builtin.zeroCells z.cells (nc-(sLen+n))) e ((sLen+n)*i.size) hlo);have hll:(l++ys).length=sLen+n:=by rw[PU,hl,hn]
 have rc:=(zG rl ry (by rw[hol,hl])).ext hstep.ext;refine⟨_,_,_,hrun,?_,hstep⟩;have key:Rel (K.jV s w.drew.heap.size ((sLen+n)*i.size) ((olds++news).toArray++Builtin.zeroCells z.cells (nc-(sLen+n))).size) (Y.R9 s (sLen+n)).top
  (w.drew.alloc (.cells ((olds++news).toArray++Builtin.zeroCells z.cells (nc-(sLen+n))) e)) (.tX (.own i.size s) (l++ys)) (.slice (some (at_ w.heap.size 0)) (l++ys).length nc):=by
  refine .tX _ _ w.heap.size 0 i.size nc (fun p q=>(olds++news).getD (p*i.size+q) undef) (by omega) (fun p hp=>(rc p hp).1) (fun p q hp hq=>?_) (fun p q hp hq=>(rc p hp).2 q hq) ?_
  .have hpq:=mul_lt (hll▸hp) hq;refine⟨?_,.inr ⟨rfl,by omega⟩⟩;have:=oh (w:=w.drew) (vals:=(olds++news).toArray++Builtin.zeroCells z.cells (nc-(sLen+n))) (t:=e) (fz:=(0,0)) (i:=p*i.size+q) (by omega);rw[zI (by omega)] at this;rw[Qi];exact this
  .refine⟨rfl,.inr rfl,?_,fun _=>⟨?_,?_,?_⟩⟩
   .show _<=upd Y.top s _ s;rw[upd_same,hll];exact mF _
   .show upd K.ob s _ s=_;rw[upd_same];rfl
   .show upd K.lo s _ s=_;rw[upd_same,hll,Qi]
   .show upd K.hi s _ s=_;rw[upd_same,hvs,Qi]
 rw[hll] at key;exact key
theorem Gs (b o:Nat)(v:Value)(w:World):Only b w (w.setCell ⟨b,o,none⟩ v):=
 ⟨rfl,rfl,rfl,by simp[World.setCell],fun k hk _=>by simp[World.setCell,Array.getElem?_modify,Ne.symm hk]⟩
theorem Only.trans {b:Nat}{w w1 w2:World}(h:Only b w w1)(g:Only b w1 w2):Only b w w2:=
 ⟨g.os.trans h.os,g.tape.trans h.tape,g.output.trans h.output,PD h.size g.size,fun k hk hl=>(g.block k hk (PV hl h.size)).trans (h.block k hk hl)⟩
theorem zJ (b:Nat):∀(vs:List Value)(o:Nat)(w:World),Only b w (w.setCells b o vs)
 | [],_,_=>⟨rfl,rfl,rfl,mF _,fun _ _ _=>rfl⟩
 |v::r,o,w=>(Gs b o v w).trans (zJ b r (o+1) _)
theorem Gt (h:au E B0 Y K w)(hB:B0<=w.heap.size){t tx ty e:TypeId}{i:TypeInfo}{z:Value}{b o cap s:Nat}{cx:Value}{news:List Value}{l ys:List V}(ht:E.P.underlying t=some (.slice e))(hi:E.P.info? e=some i)(hz:i.zero=some z)(hsz:0<i.size)(hys:ys≠[])(hx:Rel K Y.top w (.tX (.own i.size s) l) (.slice (some (at_ b o)) l.length cap))(hhead:dH i.size l=true)(hs:iX E.P w i.size ys.length tx z cx news)(h47:ys.length<=2^47)(hb:ys.length*i.bytes<=2^47)(hroom:l.length+ys.length<=cap)(ry:cB K Y.top w i.size ys news)(hT:Y.top s=l.length):
 Done E B0 new Y K w (Builtin.append_ #[t,tx] ty #[.slice (some (at_ b o)) l.length cap,cx]) (.tX (.own i.size s) (l++ys)) (Y.R9 s (l.length+ys.length)):=by
 have hyl:0<ys.length:=QH.2 hys;have hnl:0<news.length:=by rw[hs.len];exact Nat.mul_pos hyl hsz
 generalize hgl:l.length=ln at hx;cases hx with
 |aX _ a ha hc=>omega|tX _ _ _ _ n _ val hle hn hcell hrel hc=>
 obtain⟨hc1,hA,_,hc2⟩:=hc;obtain⟨c1,c2,c3⟩:=hc2 hT.symm;subst hc1;have hsum:(l.length+ys.length)*i.size=l.length*i.size+ys.length*i.size:=Qj _ _ _;have Pb:=Qm i.size hroom;have hlt:K.lo s<K.hi s:=by rw[c2,c3];have:=hs.len;omega
 obtain⟨o1,o2,o3⟩:=h.own s hA hlt;have qO:∀j,j<news.length->(∃v,w.cell? (at_ b (o+l.length*i.size+j))=some v)/\w.frozen? (at_ b (o+l.length*i.size+j))=false:=by intro j hj;have:=o3 (o+l.length*i.size+j) (by omega) (by have:=hs.len;omega);rw[c1] at this;exact this.2
 have hst:=run_storeCells_cells (P:=E.P) b (o+l.length*i.size) news 0 w (fun j hj=>by obtain⟨v,hv⟩:=(qO j hj).1;rw[Nat.add_zero,hv];rfl) (fun j hj=>by rw[Nat.add_zero];exact(qO j hj).2) hs.one;simp only[Nat.add_zero] at hst;have hrun:=run_append_room' (ty:=ty) (sLen:=l.length) (base:=some (at_ b o)) (w':=w.setCells b (o+l.length*i.size) news) ht hi hz hs h47 hb hroom (fun a ha=>by simp only[iE] at ha;subst ha;rw[addr_add];exact hst) (fun hn=>by cases hn);have hstep:=Step.kW (new:=new) h hB (s:=s) (n:=news.length) (T':=l.length+ys.length) (w':=w.setCells b (o+l.length*i.size) news) hA (by omega) hnl (by rw[c2,c3,hs.len];omega) (by rw[c1];exact zJ b news _ w)
  (fun q h1 h2=>by rw[c1];have:=World.cell?_setCells_in b news (o+l.length*i.size) w (fun j hj=>by obtain⟨v,hv⟩:=(qO j hj).1;rw[hv];rfl) (q-(o+l.length*i.size)) (by omega);rw[show o+l.length*i.size+(q-(o+l.length*i.size))=q by omega] at this;exact⟨_,this⟩)
  (fun q hq=>by rw[c1];exact World.cell?_setCells_out b news _ w _ (fun _ _=>by show q<_\/_<=q;omega))
  (fun q=>World.frozen?_setCells b news _ w _)
 refine⟨_,_,_,hrun,?_,hstep⟩;have hll:(l++ys).length=l.length+ys.length:=PU;have key:Rel (K.kW s news.length) (Y.R9 s (l.length+ys.length)).top (w.setCells b (o+l.length*i.size) news) (.tX (.own i.size s) (l++ys)) (.slice (some (at_ b o)) (l++ys).length cap):=by
  refine .tX _ _ b o i.size cap (fun p q=>if p<l.length then val p q else news.getD ((p-l.length)*i.size+q) undef) (by omega) (fun p hp=>?_) (fun p q hp hq=>?_) (fun p q hp hq=>?_) ?_
  .by_cases h1:p<l.length
   .rw[eF h1];exact hn p h1
   .rw[eG (Nat.not_lt.1 h1)];exact(ry _ (by omega)).1
  .by_cases h1:p<l.length
   .obtain⟨g1,g2⟩:=hcell p q h1 hq;obtain⟨e1,e2⟩:=hstep.ext.I _ _ g2;simp only[h1,if_true];exact⟨e2.trans g1,e1⟩
   .have h2:p-l.length<ys.length:=(by omega);have hpq:=mul_lt h2 hq;have hm:p*i.size=(p-l.length)*i.size+l.length*i.size:=(by rw[<-Qj];congr 1;omega);simp only[h1,if_false];refine⟨?_,.inr ⟨c1.symm,by omega,by have:=hs.len;omega⟩⟩;have hlt':(p-l.length)*i.size+q<news.length:=(by rw[hs.len];exact hpq);have:=World.cell?_setCells_in b news (o+l.length*i.size) w (fun j hj=>by obtain⟨v,hv⟩:=(qO j hj).1;rw[hv];rfl) ((p-l.length)*i.size+q) hlt';rw[cZ hlt',<-this];congr 2;omega
  .by_cases h1:p<l.length
   .rw[eF h1];simp only[h1,if_true];exact(hrel p q h1 hq).ext hstep.ext
   .rw[eG (Nat.not_lt.1 h1)];simp only[h1,if_false];exact((ry _ (by omega)).2 q hq).ext hstep.ext
  .refine⟨rfl,hA,?_,fun _=>⟨c1,?_,?_⟩⟩
   .show _<=upd Y.top s _ s;rw[upd_same,hll];exact mF _
   .show upd K.lo s _ s=_;rw[upd_same,hll,c2,hs.len];omega
   .exact c3
 rw[hll] at key;exact key
end
section
variable {E:Env}{B0:Nat}{Y:qd}{K:Ra}{w:World}{new:Nat->Prop}{T:Nat->Nat}
theorem oF {c:Cap}{l:List V}{cx:Value}{sz:Nat}(hx:Rel K T w (.tX c l) cx)(hs:dH sz l=true)(hc:∀n s,c= .own n s->n=sz):(∃a,cx= .slice a 0 0/\(c= .nil->a=none)/\l=[]/\nY K T c)\/∃(b o cap:Nat) (val:Nat->Nat->Value),cx= .slice (some (at_ b o)) l.length cap/\l.length<=cap/\(∀i,i<l.length->(l.getD i FN).cells.length=sz)/\ (∀i j,i<l.length->j<sz->w.cell? (at_ b (o+i*sz+j))=some (val i j)/\K.I b (o+i*sz+j))/\ (∀i j,i<l.length->j<sz->Rel K T w ((l.getD i FN).cells.getD j FN) (val i j))/\fT K T c sz b o l.length cap:=by
 cases hx with
 |aX _ a ha hcn=>exact .inl ⟨a,rfl,ha,rfl,hcn⟩|tX _ _ b o n cap val hle hn hcell hrel hcap=>
  right;by_cases h0:l=[]
  .subst h0;refine⟨b,o,cap,val,rfl,hle,fun i hi=>absurd hi (PS i),fun i j hi=>absurd hi (PS i),fun i j hi=>absurd hi (PS i),?_⟩;cases c with
   |own n' s=>have h1:=hc n' s rfl;have h2:=hcap.1;have:n=sz:=(by omega);rw[<-this];exact hcap|sh=>trivial|full=>exact hcap|nil=>exact hcap
  .obtain rfl:=uy hs hn (QH.2 h0);exact⟨b,o,cap,val,rfl,hle,hn,hcell,hrel,hcap⟩
theorem Gu {P:Program}{e:TypeId}{sz bs:Nat}{z:V}(h1:RN P e=some sz)(h2:Yq P e=some bs)(h3:Ua P e=some z):∃i cz,P.info? e=some i/\i.size=sz/\i.bytes=bs/\i.zero=some cz/\ofValue cz=some z:=by unfold RN at h1;unfold Yq at h2;unfold Ua at h3;simp only[Py,iP] at h1 h2 h3;obtain⟨i,hi,e1⟩:=h1;obtain⟨i',hi',e2⟩:=h2;obtain⟨cz,⟨Pd,zK,e3⟩,e4⟩:=h3;rw[hi] at hi' zK;cases hi';cases zK;exact⟨i,cz,hi,e1,e2,e3,e4⟩
theorem qP {sz n cap:Nat}{b o:Nat}{val:Nat->Nat->Value}(hcell:∀i j,i<n->j<sz->w.cell? (at_ b (o+i*sz+j))=some (val i j))(w':World)(hw:w'.heap=w.heap):(Builtin.firstCells sz n (.slice (some (at_ b o)) n cap)).run E.P w'= .ok ((List.range (n*sz)).map fun q=>val (q/sz) (q% sz)).toArray w':=by
 refine run_firstCells_some (P:=E.P) w' sz n (at_ b o) n cap _ (by simp) (fun j v hj=>?_);have hjl:j<n*sz:=by have:=(Qq.1 hj).1;simpa using this
 have hn0:0<sz:=by
  rcases Nat.eq_zero_or_pos sz with h|h
  .subst h;simp at hjl
  .exact h
 simp[hjl] at hj;subst hj;rw[addr_add];have:=hcell (j/sz) (j% sz) (Nat.div_lt_of_lt_mul (by rw[QA];exact hjl)) (Nat.mod_lt _ hn0);rw[cell_of_heap (w:=w) (by rw[hw])]
 rwa[Qv,QA,Nat.div_add_mod] at this
theorem uJ {l:List V}{sz:Nat}{val:Nat->Nat->Value}(hn:∀i,i<l.length->(l.getD i FN).cells.length=sz)(hrel:∀i j,i<l.length->j<sz->Rel K T w ((l.getD i FN).cells.getD j FN) (val i j)):
 cB K T w sz l ((List.range (l.length*sz)).map fun q=>val (q/sz) (q% sz)):=
 fun i hi=>⟨hn i hi,fun j hj=>by rw[zC hi hj];exact hrel i j hi hj⟩
theorem jX {t tx ty e:TypeId}{i:TypeInfo}{z cx:Value}{news:List Value}{n sLen sCap:Nat}{base:Option Addr}(ht:E.P.underlying t=some (.slice e))(hi:E.P.info? e=some i)(hz:i.zero=some z)(hs:iX E.P w i.size n tx z cx news)(hn:n=0)(hle:sLen<=sCap):(Builtin.append_ #[t,tx] ty #[.slice base sLen sCap,cx]).run E.P w= .ok (.slice base sLen sCap) w:=by
 subst hn;have h0:news=[]:=Qn (by rw[hs.len];simp);subst h0;exact run_append_room' (w':=w) (base:=base) ht hi hz hs (by omega) (by simp) (by omega) (fun a _=>rfl) (fun _=>rfl)
theorem Gv (s n:Nat)(h:Y.top s=n):Y.R9 s n=Y:=by
 unfold qd.R9;have:upd Y.top s n=Y.top:=by
  funext x;unfold upd;split
  .rename_i hx;rw[hx,h]
  .rfl
 rw[this]
theorem Gw (h:au E B0 Y K w)(hB:B0<=w.heap.size){t tx ty e:TypeId}{i:TypeInfo}{z:Value}{st:Nat}{c:Cap}{l ys:List V}{cx cy:Value}{news:List Value}{v:V}{Y':qd}(ht:E.P.underlying t=some (.slice e))(hi:E.P.info? e=some i)(hz:i.zero=some z)(hzs:z.cells.size=i.size)(hsz:0<i.size)(hst:¬K.A st)(hx:Rel K Y.top w (.tX c l) cx)(hs:iX E.P w i.size ys.length tx z cy news)(ry:cB K Y.top w i.size ys news)(h47:l.length+ys.length<=2^47)(hb:(l.length+ys.length)*i.bytes<=2^47)(hhead:dH i.size l=true)(hv:(match c with
   |.own n s=>if n=i.size/\Y.top s=l.length then some (.tX (.own n s) (l++ys),Y.R9 s (l.length+ys.length)) else none|.nil|.full=>some (.tX (.own i.size st) (l++ys),Y.R9 st (l.length+ys.length))|.sh=>none)=some (v,Y')):
 Done E B0 (· =st) Y K w (Builtin.append_ #[t,tx] ty #[cx,cy]) v Y':=by
 have hb':ys.length*i.bytes<=2^47:=PD (Qm _ (Nat.le_add_left _ _)) hb;have imp:∀{s:Nat}{m:Sem Value}{v:V}{Y':qd},K.A s->Done E B0 (· =s) Y K w m v Y'->Done E B0 (· =st) Y K w m v Y':=by rintro s m v Y' hA ⟨a,b,c,d,e,f⟩;exact⟨a,b,c,d,e,f.imp fun x hx=>.inl (hx▸hA)⟩
 have fresh:∀cx,Rel K Y.top w (.tX .full l) cx\/(∃a,cx= .slice a 0 0/\l=[])->Done E B0 (· =st) Y K w (Builtin.append_ #[t,tx] ty #[cx,cy]) (.tX (.own i.size st) (l++ys)) (Y.R9 st (l.length+ys.length)):=by
  intro cx hx;have hx':(∃a,cx= .slice a 0 0/\l=[])\/∃(b o:Nat) (val:Nat->Nat->Value),cx= .slice (some (at_ b o)) l.length l.length/\(∀p,p<l.length->(l.getD p FN).cells.length=i.size)/\
   (∀p j,p<l.length->j<i.size->w.cell? (at_ b (o+p*i.size+j))=some (val p j)/\K.I b (o+p*i.size+j))/\
   (∀p j,p<l.length->j<i.size->Rel K Y.top w ((l.getD p FN).cells.getD j FN) (val p j)):=by
   rcases hx with hx|hx
   .rcases oF hx hhead (fun n s hh=>by cases hh) with ⟨a,h1,_,h2,_⟩| ⟨b,o,cap,val,h1,h2,h3,h4,h5,h6⟩
    .exact .inl ⟨a,h1,h2⟩
    .have h6:cap=l.length:=h6;subst h6;exact .inr ⟨b,o,val,h1,h3,h4,h5⟩
   .exact .inl hx
  rcases hx' with ⟨a,rfl,rfl⟩| ⟨b,o,val,rfl,h3,h4,h5⟩
  .by_cases hys:ys=[]
   .subst hys;have hrun:=jX (ty:=ty) (base:=a) (sLen:=0) (sCap:=0) ht hi hz hs rfl (mF _);have hstep:=Step.zH h st 0 0 0 hst;refine⟨_,_,_,hrun,?_,hstep⟩;exact .aX _ a (fun h=>by cases h) ⟨Or.inr rfl,fun _=>by simp only[upd_same]⟩
   .have hl:0<ys.length:=QH.2 hys;have:=qN (ty:=ty) (base:=a) (olds:=[]) (l:=[]) (sLen:=0) (sCap:=0) h hB ht hi hz hzs rfl rfl hs (fun w' _=>qM w' i.size a) (by simp) (by simpa using h47) (by simpa using hb) (by omega) (fun p hp=>absurd hp (PS p)) ry (.inl hst);simpa using this
  .by_cases hys:ys=[]
   .subst hys;have hrun:=jX (ty:=ty) (base:=some (at_ b o)) (sLen:=l.length) (sCap:=l.length) ht hi hz hs rfl (mF _);have hstep:=Step.zH h st (l.length+0) b (o+l.length*i.size) hst;refine⟨_,_,_,hrun,?_,hstep⟩;rw[Qx];refine .tX _ _ b o i.size l.length val (mF _) h3 (fun p j hp hj=>h4 p j hp hj) (fun p j hp hj=>(h5 p j hp hj).ext hstep.ext) ⟨rfl,.inr rfl,?_,fun _=>⟨?_,?_,?_⟩⟩
    .show _<=upd Y.top st _ st;rw[upd_same];exact mF _
    .exact upd_same _ _ _
    .exact upd_same _ _ _
    .exact upd_same _ _ _
   .have hl:0<ys.length:=QH.2 hys;exact qN (ty:=ty) (base:=some (at_ b o)) h hB ht hi hz hzs rfl rfl hs (fun w' hw=>qP (fun p j hp hj=>(h4 p j hp hj).1) w' hw) (by simp) h47 hb (by omega) (uJ h3 h5) ry (.inl hst)
 cases c with
 |sh=>simp at hv|nil=>
  simp only[iE,iR] at hv;obtain⟨rfl,rfl⟩:=hv;refine fresh cx (.inr ?_);cases hx with
  |aX _ a ha _=>exact⟨a,rfl,rfl⟩|tX _ _ _ _ _ _ _ _ _ _ _ hc=>exact hc.elim
 |full=>simp only[iE,iR] at hv;obtain⟨rfl,rfl⟩:=hv;exact fresh cx (.inl hx)
 |own n s=>
  simp only at hv;split at hv
  .rename_i hc;obtain⟨rfl,hT⟩:=hc;simp only[iE,iR] at hv;obtain⟨rfl,rfl⟩:=hv;by_cases hys:ys=[]
   .subst hys;have e1:Y.R9 s (l.length+([]:List V).length)=Y:=Gv s _ hT;rw[e1,Qx];rcases oF hx hhead (fun n s hh=>by cases hh;rfl) with ⟨a,rfl,_,rfl,_⟩| ⟨b,o,cap,val,rfl,h2,_⟩
    .exact⟨_,_,_,jX (ty:=ty) (base:=a) (sLen:=0) (sCap:=0) ht hi hz hs rfl (mF _),hx,.refl h⟩
    .exact⟨_,_,_,jX (ty:=ty) (base:=some (at_ b o)) ht hi hz hs rfl h2,hx,.refl h⟩
   .have hl:0<ys.length:=QH.2 hys;rcases oF hx hhead (fun n s hh=>by cases hh;rfl) with ⟨a,rfl,_,rfl,hcn⟩| ⟨b,o,cap,val,rfl,h2,h3,h4,h5,h6⟩
    .have:=qN (ty:=ty) (base:=a) (olds:=[]) (l:=[]) (sLen:=0) (sCap:=0) (s:=s) h hB ht hi hz hzs rfl rfl hs (fun w' _=>qM w' i.size a) (by simp) (by simpa using h47) (by simpa using hb) (by omega) (fun p hp=>absurd hp (PS p)) ry (.inr (by simp at hT;omega));simpa using imp hcn.1 this
    .by_cases hr:l.length+ys.length<=cap
     .exact Gt (ty:=ty) h hB ht hi hz hsz hys hx hhead hs (by omega) hb' hr ry hT
     .exact imp h6.2.1 (qN (ty:=ty) (base:=some (at_ b o)) (s:=s) h hB ht hi hz hzs rfl rfl hs (fun w' hw=>qP (fun p j hp hj=>(h4 p j hp hj).1) w' hw) (by simp) h47 hb (by omega) (uJ h3 h5) ry (.inr (by omega)))
  .simp at hv
end
section
variable {E:Env}{B0:Nat}{Y:qd}{K:Ra}{w:World}{new:Nat->Prop}{T:Nat->Nat}
theorem Step.bF (h:au E B0 Y K w)(loc:Loc):Step E B0 new Y K w (Y.bF loc) K w:=by
 refine⟨⟨fun loc' s ob hs=>?_,h.own,h.I,h.IM,h.loop,h.glob,h.rb,h.D⟩,.refl _ _ _,.refl _ _,fun _ h=>h,fun _ h=>.inl h,fun _ _ h=>.inl h,fun _ h=>.inl h⟩;by_cases hl:loc'=loc
 .subst hl;simp[qd.bF,upd_same] at hs
 .simp only[qd.bF,upd_ne _ _ hl] at hs;exact h.obj loc' s ob hs
theorem Step.Gx (h:au E B0 Y K w)(loc:Loc){st:Nat}(hst:¬K.A st):
 Step E B0 (· =st) Y K w (Y.setObj loc st (.cells [])) {K with A:=fun x=>K.A x\/x=st,sz:=upd K.sz st 0,lo:=upd K.lo st 0,hi:=upd K.hi st 0} w:=by
 have hne:∀x,K.A x->x≠st:=fun x hx e=>hst (e▸hx);have e:Ext K Y.top w {K with A:=fun x=>K.A x\/x=st,sz:=upd K.sz st 0,lo:=upd K.lo st 0,hi:=upd K.hi st 0} Y.top w:=
  ⟨fun x hx=>⟨.inl hx,rfl,rfl,upd_ne _ _ (hne x hx)⟩,fun x hx=>.inl ⟨rfl,rfl,upd_ne _ _ (hne x hx),upd_ne _ _ (hne x hx)⟩,fun b i hi=>⟨hi,rfl⟩,fun b hb=>⟨hb,rfl⟩⟩
 refine⟨?_,e,.refl _ _,fun b hb=>hb,fun _ h=>h,fun b o hi=>.inl hi,fun _ h=>.inl h⟩;refine⟨fun loc' x ob hx=>?_,fun x hx hlt=>?_,h.I,h.IM,fun l r hl=>?_,fun g cs hg=>(h.glob g cs hg).ext e,h.rb,h.D⟩
 .by_cases hl:loc'=loc
  .subst hl;simp only[qd.setObj,upd_same,iE,iR] at hx;obtain⟨rfl,rfl⟩:=hx;exact⟨.inr rfl,⟨fun _=>upd_same _ _ _,fun hn=>absurd rfl hn⟩,fun hr=>hr.elim⟩
  .simp only[qd.setObj,upd_ne _ _ hl] at hx;obtain⟨a1,a2,a3⟩:=h.obj loc' x ob hx;exact⟨.inl a1,a2.ext e a1 (fun _=>rfl),a3⟩
 .by_cases hxs:x=st
  .subst hxs;simp only[upd_same] at hlt;omega
  .simp only[upd_ne _ _ hxs] at hlt;have:=h.own x (hx.resolve_right hxs) hlt;exact⟨this.1,this.2.1,fun o p q=>this.2.2 o (by simpa only[upd_ne _ _ hxs] using p) (by simpa only[upd_ne _ _ hxs] using q)⟩
 .obtain⟨a1,a2⟩:=h.loop l r hl;exact⟨.inl a1,a2.ext e a1 rfl rfl⟩
def gP (K:Ra)(T:Nat->Nat)(w:World)(fl:List V)(cells:List Value):Prop:=fl.length=cells.length/\∀q,q<fl.length->Rel K T w (fl.getD q FN) (cells.getD q undef)
theorem gP.ext {K' T' w'}{fl:List V}{cells:List Value}(h:gP K T w fl cells)(e:Ext K T w K' T' w'):gP K' T' w' fl cells:=⟨h.1,fun q hq=>(h.2 q hq).ext e⟩
theorem gP.append {a b:List V}{x y:List Value}(h:gP K T w a x)(g:gP K T w b y):gP K T w (a++b) (x++y):=by
 refine⟨by simp[h.1,g.1],fun q hq=>?_⟩;by_cases h1:q<a.length
 .rw[eF h1,eF (by have:=h.1;omega)];exact h.2 q h1
 .rw[eG (by omega),eG (by have:=h.1;omega),<-h.1];exact g.2 _ (by simp at hq;omega)
theorem oG {sz:Nat}:∀{l:List V}{cells:List Value},cB K T w sz l cells->cells.length=l.length*sz->gP K T w (l.flatMap V.cells) cells
 | [],cells,_,hl=>by have:cells=[]:=Qn (by simpa using hl);subst this;exact⟨rfl,fun q hq=>absurd hq (PS q)⟩
 |v::l,cells,h,hl=>by
  have hs:(l.length+1)*sz=l.length*sz+sz:=Qr _ _;rw[List.length_cons,hs] at hl;obtain⟨h1,h2⟩:=h 0 (by simp);have h1:v.cells.length=sz:=h1;have e:cells=cells.take sz++cells.drop sz:=(List.take_append_drop _ _).symm;rw[e,P6];refine gP.append ⟨by simp[h1];omega,fun q hq=>?_⟩ (oG (sz:=sz) (fun i hi=>?_) (by simp;omega))
  .have:=h2 q (by omega);rw[iA _ (by omega)];simpa using this
  .obtain⟨g1,g2⟩:=h (i+1) (by simp;omega);refine⟨by simpa using g1,fun j hj=>?_⟩;have:=g2 j hj;rw[iW];have e2:sz+(i*sz+j)=(i+1)*sz+j:=by rw[Qr];omega
   rw[e2];simpa using this
theorem uK (h:au E B0 Y K w)(hB:B0<=w.heap.size){t tx ty e:TypeId}{i:TypeInfo}{z:Value}{n sLen sCap st:Nat}{loc:Loc}{ag:Bool}{cx:Value}{olds news:List Value}{base:Option Addr}{fl:List V}(ht:E.P.underlying t=some (.slice e))(hi:E.P.info? e=some i)(hz:i.zero=some z)(hzs:z.cells.size=i.size)(hsz:0<i.size)(hs:iX E.P w i.size n tx z cx news)(hold:∀w',w'.heap=w.heap->(Builtin.firstCells i.size sLen (.slice base sLen sCap)).run E.P w'= .ok olds.toArray w')(hol:olds.length=sLen*i.size)(h47:sLen+n<=2^47)(hb:(sLen+n)*i.bytes<=2^47)(hroom:sCap<sLen+n)(rf:gP K Y.top w fl (olds++news))(hst:¬K.A st):
 Done E B0 (· =st) Y K w (Builtin.append_ #[t,tx] ty #[.slice base sLen sCap,cx]) (.vw loc st 0 (sLen+n) (sLen+n) i.size ag) (Y.setObj loc st (.cells fl)):=by
 have hrun:=run_append_grow' (ty:=ty) ht hi hz hs hold h47 hb hroom;have hge:=grownCap_ge w (sLen+n) sCap e;generalize grownCap w (sLen+n) sCap e=nc at hrun hge;have hlen:(olds++news).length=(sLen+n)*i.size:=by rw[PU,hol,hs.len,Qj]
 have hvs:((olds++news).toArray++Builtin.zeroCells z.cells (nc-(sLen+n))).size=nc*i.size:=by
  rw[Array.size_append];have:(olds++news).toArray.size=(sLen+n)*i.size:=by simpa using hlen
  rw[this];simp only[Builtin.zeroCells,Array.size_map,Array.size_range,hzs];rw[<-Qj];congr 1;omega
 have hfl:fl.length=(sLen+n)*i.size:=by rw[rf.1,hlen]
 have hpos:0< (sLen+n)*i.size:=Nat.mul_pos (by omega) hsz;have hle:(sLen+n)*i.size<=nc*i.size:=Qm _ hge;have hstep:=(Step.draw (new:=(· =st)) h).trans (Step.qE (w:=w.drew) h.drew hB hst loc (.cells fl) (.cells ((olds++news).toArray++Builtin.zeroCells z.cells (nc-(sLen+n))) e) (nc*i.size) (fun K' e' _ hb' hs'=>by refine⟨fun h0=>by rw[h0] at hfl;simp at hfl;omega,fun _=>⟨by rw[hb'];exact hB,_,e,by rw[hb'];exact heap_alloc_new w.drew _,by rw[hs',hvs],by rw[hfl,hvs];exact hle,fun q hq=>?_⟩⟩;rw[zI (by omega)];have e0:Ext K Y.top w K Y.top w.drew:=(Step.draw (new:=fun _=>False) h).ext;exact(rf.2 q hq).ext (e0.trans e')));refine⟨_,_,_,hrun,?_,hstep⟩;have key:Rel (K.bZ st w.drew.heap.size (nc*i.size) loc) (Y.setObj loc st (.cells fl)).top (w.drew.alloc (.cells ((olds++news).toArray++Builtin.zeroCells z.cells (nc-(sLen+n))) e)) (.vw loc st 0 (sLen+n) (sLen+n) i.size ag)
  (.slice (some (at_ ((K.bZ st w.drew.heap.size (nc*i.size) loc).blk st) 0)) (sLen+n) nc):=
  .vw loc st 0 _ _ i.size ag nc (.inr rfl) hge (mF _) (by show 0+_<=upd K.sz st _ st;rw[upd_same];omega)
 have hblk:(K.bZ st w.drew.heap.size (nc*i.size) loc).blk st=w.heap.size:=upd_same _ _ _;rw[hblk] at key;exact key
theorem zL {b:Nat}{vals:Array Value}{t:TypeId}{off:Nat}{news:List Value}(g1:w.heap[b]? =some (.cells vals t (0,0)))(hle:off+news.length<=vals.size)(hone:∀u∈news,u.oneCell'=true):
 ∃w' vals',(storeCells (at_ b off) news).run E.P w= .ok () w'/\Only b w w'/\w'.heap[b]? =some (.cells vals' t (0,0))/\vals'.size=vals.size/\
  ∀i,i<vals.size->vals'.getD i undef=if off<=i/\i<off+news.length then news.getD (i-off) undef else vals.getD i undef:=by
 have hrun:=run_storeCells_at E.P b off t news 0 vals w g1 (by omega) hone;refine⟨_,_,hrun,?_,setRow_heap w b vals _ t (0,0) g1,by simp;omega,fun i oz=>?_⟩
 .refine⟨rfl,rfl,rfl,by simp[World.setRow],fun k hk _=>?_⟩;simp[World.setRow,Array.getElem?_modify,Ne.symm hk]
 .have hl:(vals.toList.take (off+0)).length=off:=by simp;omega
  have harr:∀(l:List Value),l.toArray.getD i undef=l.getD i undef:=fun l=>by simp[Array.getD,List.getD];split<;>simp_all
  rw[harr,Qe];by_cases h1:i<off
  .rw[eF (by omega),iA _ (by omega),if_neg (by omega)];simp[List.getD,Array.getD,oz]
  .rw[eG (by omega),hl];by_cases h2:i-off<news.length
   .rw[eF h2,if_pos (by omega)]
   .rw[eG (by omega),iW,if_neg (by omega)];have:off+0+news.length+(i-off-news.length)=i:=(by omega);rw[this];simp[List.getD,Array.getD,oz]
theorem zM {loc:Loc}{s:Nat}{ob:Tg}(ho:Y.obj loc=some (s,ob)):Y.setObj loc s ob=Y:=by
 unfold qd.setObj;have:upd Y.obj loc (some (s,ob))=Y.obj:=by
  funext l;unfold upd;split
  .rename_i hl;rw[hl,ho]
  .rfl
 rw[this]
theorem zN (h:au E B0 Y K w)(hB:B0<=w.heap.size){loc:Loc}{s off:Nat}{cs fl:List V}{news:List Value}(hcs:Y.Rs loc s=some cs)(rf:gP K Y.top w fl news)(hle:off+fl.length<=cs.length)(hone:∀u∈news,u.oneCell'=true):
 ∃w',(storeCells (at_ (K.blk s) off) news).run E.P w= .ok () w'/\Step E B0 new Y K w (Y.setObj loc s (.cells (Ti cs off fl))) K w':=by
 obtain⟨ho,_,_⟩:=h.jU hcs;obtain⟨_,bU,_⟩:=h.obj _ _ _ ho;by_cases hne:cs=[]
 .subst hne;have h0:fl=[]:=by cases fl with|nil=>rfl|cons a b=>simp at hle
  subst h0;have h0':news=[]:=Qn (by rw[<-rf.1];rfl);subst h0';have hsp:Ti [] off []=([]:List V):=by simp[Ti]
  rw[hsp,zM ho];exact⟨w,rfl,.refl h⟩
 .obtain⟨hb0,vals,t',g1,g2,g3,g4⟩:=bU.2 hne;obtain⟨w',vals',r1,r2,r3,r4,r5⟩:=zL (E:=E) (off:=off) (news:=news) g1 (by have:=rf.1;omega) hone;refine⟨w',r1,Step.setCells h hB ho hne g1 r2 r3 r4 (by intro h0;have:=jW hle;rw[h0] at this;exact hne (Qn this.symm)) (by rw[jW hle,r4];exact g3) (fun e i hi=>?_)⟩;rw[jW hle] at hi;have hiv:i<vals.size:=PV hi g3;rw[uE hle,r5 i hiv,<-rf.1];by_cases hh:off<=i/\i<off+fl.length
  .rw[if_pos hh,if_pos hh];exact(rf.2 _ (by omega)).ext e
  .rw[if_neg hh,if_neg hh];exact(g4 i hi).ext e
end
section
variable {E:Env}{B0:Nat}{Y:qd}{K:Ra}{w:World}{new:Nat->Prop}{T:Nat->Nat}
theorem zO {n b:Nat}(h:Sl n b=true):n<=2^47/\n*b<=2^47:=by simp only[Sl,Pz,decide_eq_true_eq] at h;exact⟨h.2,h.1⟩
theorem Gy {sz:Nat}{ys:List V}{news:List Value}(h:cB K T w sz ys news):(ys.flatMap V.cells).length=ys.length*sz:=by
 have:∀v∈ys,v.cells.length=sz:=fun v hv=>by
  obtain⟨i,hi,rfl⟩:=QY.1 hv;have:=(h i hi).1
  rwa[cZ hi] at this
 clear h;induction ys with
 |nil=>simp|cons a l ih=>rw[P6,PU,ih (fun v hv=>this v (by simp[hv])),this a (by simp),List.length_cons,Qr];omega
theorem Gz (h:au E B0 Y K w){loc:Loc}{s:Nat}{cs:List V}(hcs:Y.Rs loc s=some cs){n:Nat}(hn:n<=cs.length):
 ∃vals:Nat->Value,gP K Y.top w (cs.take n) ((List.range n).map vals)/\∀j,j<n->w.cell? (at_ (K.blk s) j)=some (vals j):=by
 obtain⟨ho,_,_⟩:=h.jU hcs;obtain⟨_,bU,_⟩:=h.obj _ _ _ ho;by_cases hne:cs=[]
 .subst hne;have:n=0:=by simpa using hn
  subst this;exact⟨fun _=>undef,⟨rfl,fun q hq=>absurd hq (PS q)⟩,fun j hj=>absurd hj (PS j)⟩
 .obtain⟨hb0,vals,t',g1,g2,g3,g4⟩:=bU.2 hne;refine⟨fun j=>vals.getD j undef,⟨by simp;omega,fun q hq=>?_⟩,fun j hj=>?_⟩
  .have hq':q<n:=by simp at hq;omega
   rw[iA _ hq'];have:((List.range n).map fun j=>vals.getD j undef).getD q undef=vals.getD q undef:=by simp[List.getD,hq']
   rw[this];exact g4 q (by omega)
  .have:j<vals.size:=by omega
   simp[World.cell?,g1,this]
theorem GA (h:au E B0 Y K w)(hB:B0<=w.heap.size){t tx ty e:TypeId}{i:TypeInfo}{z:Value}{st s len cap:Nat}{bJ loc:Loc}{ag kX:Bool}{ys cs:List V}{cx cy:Value}{news:List Value}{v:V}{Y':qd}(ht:E.P.underlying t=some (.slice e))(hi:E.P.info? e=some i)(hz:i.zero=some z)(hzs:z.cells.size=i.size)(hsz:0<i.size)(hst:¬K.A st)(hx:Rel K Y.top w (.vw bJ s 0 len cap i.size kX) cx)(hs:iX E.P w i.size ys.length tx z cy news)(ry:cB K Y.top w i.size ys news)(h47:len+ys.length<=2^47)(hb:(len+ys.length)*i.bytes<=2^47)(hcs:Y.Rs bJ s=some cs)(hv:(if len+ys.length<=cap then if (len+ys.length)*i.size<=cs.length then some (V.vw bJ s 0 (len+ys.length) cap i.size ag,Y.setObj bJ s (.cells (Ti cs (len*i.size) (ys.flatMap V.cells))))else none else if len*i.size<=cs.length then some (.vw loc st 0 (len+ys.length) (len+ys.length) i.size ag,(Y.bF bJ).setObj loc st (.cells (cs.take (len*i.size)++ys.flatMap V.cells)))else none)=some (v,Y')):
 Done E B0 (· =st) Y K w (Builtin.append_ #[t,tx] ty #[cx,cy]) v Y':=by
 have hb':ys.length*i.bytes<=2^47:=PD (Qm _ (Nat.le_add_left _ _)) hb;have hfl:=Gy ry;have oH:=oG ry hs.len;have hsum:(len+ys.length)*i.size=len*i.size+ys.length*i.size:=Qj _ _ _;obtain⟨ho,hA,hks⟩:=h.jU hcs;split at hv
 .rename_i hcap;split at hv
  .rename_i hle;simp only[iE,iR] at hv;obtain⟨rfl,rfl⟩:=hv;cases hx with
   |dQ=>have hys:ys=[]:=Qn (by omega);subst hys;have e1:Ti cs (0*i.size) ([].flatMap V.cells)=cs:=(by simp[Ti]);rw[e1,zM ho];exact⟨_,_,_,jX (ty:=ty) (base:=none) (sLen:=0) (sCap:=0) ht hi hz hs rfl (mF _),.dQ bJ s i.size ag hA,.refl h⟩|vw _ _ _ _ _ _ _ aR hA' hcc hlc uL=>obtain⟨w',r1,r2⟩:=zN (new:=(· =st)) h hB hcs oH (off:=len*i.size) (by rw[hfl];omega) hs.one;have hrun:=run_append_room' (ty:=ty) (sLen:=len) (sCap:=aR) (base:=some (at_ (K.blk s) 0)) (w':=w') ht hi hz hs (by omega) hb' (by omega) (fun a ha=>by simp only[iE] at ha;subst ha;rw[addr_add,Qi];exact r1) (fun hn=>by cases hn);exact⟨_,_,_,hrun,.vw bJ s 0 _ cap i.size ag aR hA hcc hcap uL,r2⟩
  .simp at hv
 .rename_i hcap;split at hv
  .rename_i hle;simp only[iE,iR] at hv;obtain⟨rfl,rfl⟩:=hv;have grow:∀base aR,(∀w',w'.heap=w.heap->∀vals:Nat->Value,(∀j,j<len*i.size->w.cell? (at_ (K.blk s) j)=some (vals j))->(Builtin.firstCells i.size len (.slice base len aR)).run E.P w'= .ok ((List.range (len*i.size)).map vals).toArray w')->aR<len+ys.length->
    Done E B0 (· =st) Y K w (Builtin.append_ #[t,tx] ty #[.slice base len aR,cy]) (.vw loc st 0 (len+ys.length) (len+ys.length) i.size ag) ((Y.bF bJ).setObj loc st (.cells (cs.take (len*i.size)++ys.flatMap V.cells))):=by
    intro base aR hold hroom;obtain⟨vals,g1,g2⟩:=Gz h hcs hle;have hd:=Step.bF (new:=(· =st)) h bJ;obtain⟨a,b,c,d1,d2,d3⟩:=uK (ty:=ty) (ag:=ag) (loc:=loc) (base:=base) (sLen:=len) (sCap:=aR) (Y:=Y.bF bJ) (olds:=(List.range (len*i.size)).map vals) hd.ok hB ht hi hz hzs hsz hs (fun w' hw=>hold w' hw vals g2) (by simp) h47 hb hroom ((g1.append oH).ext hd.ext) hst;exact⟨a,b,c,d1,d2,hd.trans d3⟩
   cases hx with
   |dQ=>exact grow none 0 (fun w' _ vals _=>by simp[Builtin.firstCells]) (by omega)
   |vw _ _ _ _ _ _ _ aR hA' hcc hlc uL=>
    by_cases hr:len+ys.length<=aR
    .have hmc:=Qm i.size hr;have hpos:0< (len+ys.length)*i.size:=Nat.mul_pos (by omega) hsz;obtain⟨_,bU,_⟩:=h.obj _ _ _ ho;have hne:cs≠[]:=(by rintro rfl;have:=bU.1 rfl;omega);obtain⟨hb0,vals,t',g1,g2,g3,g4⟩:=bU.2 hne;obtain⟨w',vals',r1,r2,r3,r4,r5⟩:=zL (E:=E) (off:=len*i.size) (news:=news) g1 (by have:=oH.1;omega) hs.one;have hrun:=run_append_room' (ty:=ty) (sLen:=len) (sCap:=aR) (base:=some (at_ (K.blk s) 0)) (w':=w') ht hi hz hs (by omega) hb' hr (fun a ha=>by simp only[iE] at ha;subst ha;rw[addr_add,Qi];exact r1) (fun hn=>by cases hn);have hcl:(cs.take (len*i.size)++ys.flatMap V.cells).length=(len+ys.length)*i.size:=(by simp only[PU,Qb,hfl];omega);have hstep:=Step.FE (loc:=loc) (cs:=cs.take (len*i.size)++ys.flatMap V.cells) h hB hst ho hne g1 r2 r3 (by intro h0;rw[h0] at hcl;simp at hcl;omega) (by omega) (fun K' e' q hq=>by
      have GD:q<vals.size:=(by omega);have hrf:=oH.1;have hlt:(cs.take (len*i.size)).length=len*i.size:=(by simp only[Qb];omega);rw[r5 q GD];by_cases h1:q<len*i.size
      .rw[eF (by omega),iA _ h1,if_neg (by omega)];exact(g4 q (by omega)).ext e'
      .rw[eG (by omega),hlt,if_pos (by omega)];exact(oH.2 _ (by omega)).ext e')
     refine⟨_,_,_,hrun,?_,hstep⟩;have key:Rel (K.bZ st (K.blk s) vals'.size loc) ((Y.bF bJ).setObj loc st (.cells (cs.take (len*i.size)++ys.flatMap V.cells))).top w' (.vw loc st 0 (len+ys.length) (len+ys.length) i.size ag)
      (.slice (some (at_ ((K.bZ st (K.blk s) vals'.size loc).blk st) 0)) (len+ys.length) aR):=
      .vw loc st 0 _ _ i.size ag aR (.inr rfl) hr (mF _) (by show 0+_<=upd K.sz st _ st;rw[upd_same];omega)
     have hblk:(K.bZ st (K.blk s) vals'.size loc).blk st=K.blk s:=upd_same _ _ _;rw[hblk] at key;exact key
    .exact grow (some (at_ (K.blk s) 0)) aR (fun w' hw vals GH=>by have:=qP (E:=E) (w:=w) (sz:=i.size) (n:=len) (cap:=aR) (b:=K.blk s) (o:=0) (val:=fun p q=>vals (p*i.size+q)) (fun p q hp hq=>by rw[Qi];exact GH _ (mul_lt hp hq)) w' hw;rw[this];congr 3;funext q;show vals (q/i.size*i.size+q% i.size)=vals q;rw[QA,Nat.div_add_mod]) (by omega)
  .simp at hv
theorem uM (h:au E B0 Y K w)(hB:B0<=w.heap.size){om zeros:Bool}{st:Nat}{loc:Option Loc}{t tx ty:TypeId}{x y v:V}{cx cy:Value}{Y':qd}(hst:¬K.A st)(hx:Rel K Y.top w x cx)(hy:Rel K Y.top w y cy)(hk:zeros=true->∃k,E.P.underlying tx=some (.int k))(hk':zeros=false->(∃e',E.P.underlying tx=some (.slice e'))\/E.P.underlying tx=some .string)(hv:bT E.P om zeros Y st loc t x y=some (v,Y')):Done E B0 (· =st) Y K w (Builtin.append_ #[t,tx] ty #[cx,cy]) v Y':=by
 simp only[bT,iP] at hv;obtain⟨e,he,sz,hsz,SA,hby,ag,hag,z,hz,hv⟩:=hv;split at hv
 .rename_i hc;obtain⟨c1,c2,c3,c4⟩:=hc;simp only[iP] at hv;obtain⟨ys,hys,hv⟩:=hv;split at hv
  .rename_i hone;have hu:=oo he;obtain⟨i,cz,hi,rfl,rfl,hiz,hzv⟩:=Gu hsz hby hz;have hraw:SK z=true:=mE hz;obtain⟨Pe,_,hz2⟩:=jr w hz;have hrz:Rel K Y.top w z cz:=uf hzv;have hzs:cz.cells.size=i.size:=by rw[<-(jq hrz hraw).1,c2]
   obtain⟨news,hs,ry⟩:=Gq (e:=e) h hy hrz hraw c2 c4 hk hk' c1 hys hone rfl;cases x with
   |tX c l=>
    simp only at hv;split at hv
    .rename_i hr;obtain⟨hr,hhead⟩:=hr;obtain⟨h47,hb⟩:=zO hr;have zP:∀loc,(c= .nil\/(c= .full/\ys≠[]))->Done E B0 (· =st) Y K w (Builtin.append_ #[t,tx] ty #[cx,cy]) (.vw loc st 0 (l.length+ys.length) (l.length+ys.length) i.size ag) (Y.setObj loc st (.cells ((l++ys).flatMap V.cells))):=by
      intro loc hcc;have GI:=oG ry hs.len;rcases oF hx hhead (fun n s hh=>by rcases hcc with rfl| ⟨rfl,_⟩<;>cases hh) with ⟨a0,rfl,ha0,rfl,_⟩| ⟨b,o,cap,val,rfl,h2,h3,h4,h5,h6⟩
      .by_cases hy0:ys=[]
       .subst hy0;have ha:a0=none:=by
         rcases hcc with h1| ⟨_,h1⟩
         .exact ha0 h1
         .exact absurd rfl h1
        subst ha;exact⟨_,_,_,jX (ty:=ty) (base:=none) (sLen:=0) (sCap:=0) hu hi hiz hs rfl (mF _),.dQ loc st i.size ag (Or.inr rfl),Step.Gx h loc hst⟩
       .have hl:0<ys.length:=QH.2 hy0;have:=uK (ty:=ty) (ag:=ag) (loc:=loc) (base:=a0) (olds:=[]) (sLen:=0) (sCap:=0) (fl:=ys.flatMap V.cells) h hB hu hi hiz hzs c3 hs (fun w' _=>qM w' i.size a0) (by simp) (by simpa using h47) (by simpa using hb) (by omega) (by simpa using GI) hst;simpa using this
      .rcases hcc with rfl| ⟨rfl,hy0⟩
       .exact h6.elim
       .have hcap:cap=l.length:=h6;subst hcap;have hl:0<ys.length:=QH.2 hy0;have rc:=zG (uJ h3 h5) ry (by simp);exact uK (ty:=ty) (ag:=ag) (loc:=loc) (base:=some (at_ b o)) h hB hu hi hiz hzs c3 hs (fun w' hw=>qP (fun p j hp hj=>(h4 p j hp hj).1) w' hw) (by simp) h47 hb (by omega) (oG rc (by rw[PU,hs.len,PU,Qj];simp)) hst
     cases om with
     |true=>
      cases c with
      |nil=>simp only[Py,iR] at hv;obtain⟨loc,_,rfl,rfl⟩:=hv;exact zP loc (.inl rfl)
      |full=>
       simp only at hv;split at hv
       .rename_i hy0;simp only[iE,iR] at hv;obtain⟨rfl,rfl⟩:=hv;have hn:ys.length=0:=(by simpa using hy0);rcases oF hx hhead (fun n s hh=>by cases hh) with ⟨a0,rfl,_,rfl,_⟩| ⟨b,o,cap,val,rfl,h2,h3,h4,h5,h6⟩
        .exact⟨_,_,_,jX (ty:=ty) (base:=a0) (sLen:=0) (sCap:=0) hu hi hiz hs hn (mF _),hx,Step.refl h⟩
        .exact⟨_,_,_,jX (ty:=ty) (base:=some (at_ b o)) hu hi hiz hs hn (by omega),hx,Step.refl h⟩
       .rename_i hy0;simp only[Py,iR] at hv;obtain⟨loc,_,rfl,rfl⟩:=hv;exact zP loc (.inr ⟨rfl,fun h0=>hy0 (by rw[h0];rfl)⟩)
      |own n s=>simp at hv|sh=>simp at hv
     |false=>refine Gw (ty:=ty) h hB hu hi hiz hzs c3 hst hx hs ry h47 hb hhead ?_;rw[<-hv];cases c<;>rfl
    .simp at hv
   |vw bJ s off len cap aD kX=>
    simp only at hv;split at hv
    .rename_i hr;obtain⟨hr,_,rfl,rfl⟩:=hr;obtain⟨h47,hb⟩:=zO hr;simp only[iP] at hv;obtain⟨loc,_,cs,hcs,hv⟩:=hv;exact GA (ty:=ty) h hB hu hi hiz hzs c3 hst hx hs ry h47 hb hcs hv
    .simp at hv
   |_=>simp at hv
  .simp at hv
 .simp at hv
end
section
variable {E:Env}{B0:Nat}{Y:qd}{K:Ra}{w:World}{new:Nat->Prop}{T:Nat->Nat}
theorem GJ (h:au E B0 Y K w)(hB:B0<=w.heap.size){om:Bool}{st:Nat}{loc:Option Loc}{t:TypeId}{l c v:V}{cl cc:Value}{Y':qd}(hst:¬K.A st)(hl:Rel K Y.top w l cl)(hc:Rel K Y.top w c cc)(hv:jo E.P om Y st loc t l c=some (v,Y')):Done E B0 (· =st) Y K w (Instr.makeSlice t cl cc) v Y':=by
 unfold jo at hv;cases hv
theorem GK (h:au E B0 Y K w)(hB:B0<=w.heap.size){st:Nat}{loc:Option Loc}{t:TypeId}{len:Nat}{parts:List (Nat×V)}{parts':Array (Nat×Value)}{v:V}{Y':qd}(hst:¬K.A st)(hp:mO K Y.top w parts parts'.toList)(hv:jS E Y st loc t len parts=some (v,Y')):Done E B0 (· =st) Y K w (Instr.buildSlice t len parts') v Y':=by
 simp only[jS,iP] at hv;obtain⟨e,he,sz,hsz,ag,hag,z,hz,hv⟩:=hv;split at hv
 .rename_i hc;obtain⟨c1,c2,c3⟩:=hc;simp only[iP,Py,iR] at hv;obtain⟨cs,hcs,loc,_,rfl,rfl⟩:=hv;obtain⟨cz,hz1,hz2⟩:=jr w hz;have hraw:SK z=true:=mE hz;have hrz:=qL (hz2 K Y.top) hraw c2 len;obtain⟨vs',g1,g2,g3⟩:=oC (K:=K) (T:=Y.top) (w:=w) (place':=fun i=>some (i*sz,sz)) (fun i x hx=>by
   split at hx
   .exact hx
   .simp at hx) parts parts'.toList _ _ _ hp hrz hcs
  have hlen:cs.length=len*sz:=by rw[g2.1,g3];simp
  have hu:=oo he;have hrun:(Instr.buildSlice t len parts').run E.P w= .ok (.slice (some ⟨w.heap.size,0,none⟩) len len) (w.alloc (.cells vs' e)):=by
   have hn:¬2^24<len*sz:=by omega
   by_cases h0:len*sz=0
   .have hl0:len=0:=by
     rcases Nat.mul_eq_zero.1 h0 with h|h
     .exact h
     .omega
    subst hl0;simp only[Instr.buildSlice,Sem.run_bind,run_underlying hu,Result.andThen_ok,dD w hsz,Nat.zero_mul];have g1':Instr.fill (fun i=>some (i*sz,sz)) #[] parts'.toList=some vs':=(by have e0:((Array.range (0*sz)).map fun i=>cz.cells[i% cz.cells.size]!)= #[]:=(by simp[Array.range_zero']);rw[<-e0];exact g1);have e1:∀f:Nat->Value,(Array.range 0).map f= #[]:=fun f=>by simp[Array.range_zero']
    simp only[if_true,e1,g1'];simp[newRow]
   .simp only[Instr.buildSlice,Sem.run_bind,run_underlying hu,Result.andThen_ok,dD w hsz,hn,gt_iff_lt,if_false,h0,hz1,Sem.run_pure];rw[g1];simp[newRow]
  have hms:vs'.size=len*sz:=by rw[<-g2.1,hlen]
  have hstep:=Step.qE h hB hst loc (.cells cs) (.cells vs' e) (len*sz) (fun K' e' _ hb' hs'=>by refine⟨fun h0=>by rw[h0] at hlen;rw[hs',<-hlen];rfl,fun _=>⟨by rw[hb'];exact hB,_,e,by rw[hb'];exact heap_alloc_new w _,by rw[hs',hms],by rw[hlen,hms];exact mF _,fun q hq=>?_⟩⟩;exact(g2.2 q hq).ext e');refine⟨_,_,_,hrun,?_,hstep⟩;have key:Rel (K.bZ st w.heap.size (len*sz) loc) (Y.setObj loc st (.cells cs)).top (w.alloc (.cells vs' e)) (.vw loc st 0 len len sz ag)
   (.slice (some (at_ ((K.bZ st w.heap.size (len*sz) loc).blk st) 0)) len len):=
   .vw loc st 0 _ _ sz ag _ (Or.inr rfl) (mF _) (mF _) (by show 0+_<=upd K.sz st _ st;rw[upd_same];omega)
  have hblk:(K.bZ st w.heap.size (len*sz) loc).blk st=w.heap.size:=upd_same _ _ _;rw[hblk] at key;exact key
 .simp at hv
theorem GL (h:au E B0 Y K w)(hB:B0<=w.heap.size){t tx ty:TypeId}{x y v:V}{cx cy:Value}{Y':qd}(hx:Rel K Y.top w x cx)(hy:Rel K Y.top w y cy)(hv:copyV E.P Y t x y=some (v,Y')):Done E B0 new Y K w (Builtin.copy_ #[t,tx] ty #[cx,cy]) v Y':=by
 unfold copyV at hv;cases hv
theorem GN (h:au E B0 Y K w)(hB:B0<=w.heap.size){t ty:TypeId}{x v:V}{cx:Value}{Y':qd}(hx:Rel K Y.top w x cx)(hv:ig E.P Y t x=some (v,Y')):Done E B0 new Y K w (Builtin.clear_ #[t] ty #[cx]) v Y':=by
 simp only[ig,iP] at hv;obtain⟨e,he,sz,hsz,SA,hby,z,hz,hv⟩:=hv;split at hv
 .rename_i hc;obtain⟨c1,c2⟩:=hc;have hu:=oo he;have hraw:SK z=true:=mE hz;obtain⟨cz,hzv,hrz⟩:=jr (w:=w) hz;have hrz:Rel K Y.top w z cz:=hrz _ _;cases x with
  |vw loc s off len cap aD kX=>
   simp only[iP] at hv;obtain⟨cs,hcs,hv⟩:=hv;split at hv
   .rename_i hle;obtain⟨rfl,hle⟩:=hle;by_cases hl0:len=0
    .rw[if_pos hl0] at hv;subst hl0;simp only[iE,iR] at hv;obtain⟨rfl,rfl⟩:=hv;refine⟨_,w,K,?_,.Rm [] #[] rfl (fun i hi=>absurd hi (PS i)),.refl h⟩;cases hx<;>simp[Builtin.clear_,run_underlying hu]
    rw[if_neg hl0] at hv;have h0:0<len:=Nat.pos_of_ne_zero hl0;simp only[iE,iR] at hv;obtain⟨rfl,rfl⟩:=hv;cases hx with
    |dQ=>exact absurd h0 (Nat.lt_irrefl _)|vw _ _ _ _ _ _ _ aR hA' hcc hlc uL=>
     have hcsz:cz.cells.size=aD:=(by rw[<-(jq hrz hraw).1,c1]);have hzc:Builtin.zeroCells cz.cells len=(Array.range (len*aD)).map fun i=>cz.cells[i% cz.cells.size]! :=(by unfold Builtin.zeroCells;rw[hcsz]);have hlen:(List.replicate len z).length=len:=List.length_replicate;have hr:=qL hrz hraw c1 len;have hrc:cB K Y.top w aD (List.replicate len z) (Builtin.zeroCells cz.cells len).toList:=(by intro i hi;rw[hlen] at hi;have hg:(List.replicate len z).getD i FN=z:=(by simp[List.getD,hi]);rw[hg];refine⟨c1,fun j hj=>?_⟩;have hq:=mul_lt hi hj;have:=hr.2 (i*aD+j) (by simp[c1];exact hq);have hm:(i*aD+j)% aD=j:=(by rw[QA,Nat.mul_add_mod,QS hj]);rw[qK z.cells aD c1 (by omega) _ _ hq,hm] at this;rw[hzc,mM];exact this);have hnl:(Builtin.zeroCells cz.cells len).toList.length=(List.replicate len z).length*aD:=(by rw[hzc,hlen];simp);have hone:(List.replicate len z).all (fun v=>RP v.cells)=true:=P7.2 fun u hu=>by rw[(List.mem_replicate.1 hu).2];exact c2
     have hone':=uI hrc hnl hone;have rf:=oG hrc hnl;obtain⟨w',r1,r2⟩:=zN (new:=new) h hB hcs rf (off:=off) (by rw[rf.1,hnl,hlen];omega) hone';refine⟨_,w',K,?_,.Rm [] #[] rfl (fun i hi=>absurd hi (PS i)),r2⟩;cases len with
     |zero=>exact absurd h0 (Nat.lt_irrefl _)|succ n=>simp[Builtin.clear_,run_underlying hu,hzv,r1]
   .simp at hv
  |tX c l=>
   cases l with
   |nil=>
    simp only[iE,iR] at hv;obtain⟨rfl,rfl⟩:=hv;refine⟨_,w,K,?_,.Rm [] #[] rfl (fun i hi=>absurd hi (PS i)),.refl h⟩;cases hx with
    |aX _ a _ _=>cases a<;>simp[Builtin.clear_,run_underlying hu]|tX=>simp[Builtin.clear_,run_underlying hu]
   |cons a l=>simp at hv
  |_=>simp at hv
 .simp at hv
end
section
variable {E:Env}{B0:Nat}{Y:qd}{K:Ra}{w:World}{new:Nat->Prop}{T:Nat->Nat}
theorem GQ (h:au E B0 Y K w){t ty:TypeId}{ts:Array TypeId}{x:V}{cx:Value}{n:Nat}(ht:ts[0]? =some t)(hx:Rel K Y.top w x cx)(hv:fP E Y t x=some n):(Builtin.len_ ts ty #[cx]).run E.P w= .ok (.int .i64 n) w:=by
 unfold fP at hv;split at hv
 .rename_i m e hu;simp only[iE] at hv;subst hv;simp[Builtin.len_,ht,run_underlying hu,goInt]
 .rename_i k e loc s hu;simp only[Py] at hv;obtain⟨⟨ks,vs⟩,hm,rfl⟩:=hv;unfold qd.aW at hm;split at hm
  .rename_i s' ks' vs' ho;split at hm
   .rename_i hs;subst hs;simp only[iE,iR] at hm;obtain⟨rfl,rfl⟩:=hm;obtain⟨_,⟨_,es,aG,g1,g2,_⟩,_⟩:=h.obj _ _ _ ho;cases hx;have hg:(getObj (K.blk s')).run E.P w= .ok (.map es aG) w:=(by simp[getObj,Sem.run,g1]);simp[Builtin.len_,ht,run_underlying hu,goInt,hg,g2]
   .simp at hm
  .simp at hm
 .rename_i k e ks vs hu;simp only[iE] at hv;subst hv;cases hx with|R3 _ _ b es aG hM hb hk hv' rk rv=>
  have hg:(getObj b).run E.P w= .ok (.map es aG) w:=by simp[getObj,Sem.run,hb]
  simp[Builtin.len_,ht,run_underlying hu,goInt,hg,hk]
 .rename_i k e hu;simp only[iE] at hv;subst hv;cases hx;simp[Builtin.len_,ht,run_underlying hu,goInt]
 .rename_i a x hu;simp only[Py] at hv;obtain⟨⟨m,e⟩,hm,rfl⟩:=hv;simp[Builtin.len_,ht,run_underlying hu,run_underlying (za hm),goInt]
 .rename_i e c l hu;simp only[iE] at hv;subst hv;cases hx<;>simp[Builtin.len_,ht,run_underlying hu,goInt]
 .rename_i e loc s off len cap aD ag hu;simp only[iE] at hv;subst hv;cases hx<;>simp[Builtin.len_,ht,run_underlying hu,goInt]
 .rename_i s hu;simp only[iE] at hv;subst hv;cases hx with|str _ b hb=>
  subst hb;simp[Builtin.len_,ht,run_underlying hu,goInt]
 .simp at hv
theorem GR {t e ty:TypeId}{ts:Array TypeId}{x v:V}{cx:Value}{Y':qd}(ht:ts[0]? =some t)(hu:E.P.underlying t=some (.slice e))(hv:(match x with|.tX .nil l|.tX .full l=>some (V.int .i64 l.length,Y)|_=>none)=some (v,Y'))(hx:Rel K Y.top w x cx):
 Y'=Y/\∃c,(Builtin.cap_ ts ty #[cx]).run E.P w= .ok c w/\Rel K Y.top w v c:=by
 cases x with
 |tX c l=>
  cases c with
  |nil=>
   simp only[iE,iR] at hv;obtain⟨rfl,rfl⟩:=hv;cases hx with
   |aX _ a=>exact⟨rfl,_,by cases a<;>simp[Builtin.cap_,ht,run_underlying hu,goInt],.int .i64 0⟩|tX _ _ _ _ _ _ _ _ _ _ _ hc=>exact hc.elim
  |full=>
   simp only[iE,iR] at hv;obtain⟨rfl,rfl⟩:=hv;cases hx with
   |aX _ a=>exact⟨rfl,_,by cases a<;>simp[Builtin.cap_,ht,run_underlying hu,goInt],.int .i64 0⟩|tX _ _ _ _ _ cap _ _ _ _ _ hc=>have hc:cap=l.length:=hc;subst hc;exact⟨rfl,_,by simp[Builtin.cap_,ht,run_underlying hu,goInt],.int .i64 _⟩
  |_=>simp at hv
 |_=>simp at hv
theorem GU:∀(l:List V)(cl:List Value)(x v:V)(cx:Value),l.length=cl.length->(∀i,i<l.length->Rel K T w (l.getD i FN) (cl.getD i undef))->Rel K T w x cx->kT false x l=some v->
 ∃c,(cl.foldlM Builtin.min2 cx).run E.P w= .ok c w/\Rel K T w v c:=
 fun _ _ _ _ _ _ _ _ hv=>by unfold kT at hv;cases hv
theorem GV:∀(l:List V)(cl:List Value)(x v:V)(cx:Value),l.length=cl.length->(∀i,i<l.length->Rel K T w (l.getD i FN) (cl.getD i undef))->Rel K T w x cx->kT true x l=some v->
 ∃c,(cl.foldlM Builtin.max2 cx).run E.P w= .ok c w/\Rel K T w v c:=
 fun _ _ _ _ _ _ _ _ hv=>by unfold kT at hv;cases hv
end
section
variable {E:Env}{B0:Nat}{Y:qd}{K:Ra}{w:World}{new:Nat->Prop}{T:Nat->Nat}
def fZ (E:Env)(B0:Nat)(new:Nat->Prop)(Y:qd)(K:Ra)(w:World)(s:Sem Next)(v:V)(Y':qd):Prop:=
 ∃nx c w' K',s.run E.P w= .ok nx w'/\(nx= .value c\/(nx= .skip/\c=undef))/\Rel K' Y'.top w' v c/\Step E B0 new Y K w Y' K' w'
theorem fZ.fG {s:Sem Value}{v:V}{Y':qd}(h:Done E B0 new Y K w s v Y'):fZ E B0 new Y K w (do pure (.value (<-s))) v Y':=by obtain⟨c,w',K',h1,h2,h3⟩:=h;exact⟨.value c,c,w',K',by simp[h1],.inl rfl,h2,h3⟩
theorem fZ.bV (h:au E B0 Y K w){s:Sem Value}{v:V}(hs:∃c,s.run E.P w= .ok c w/\Rel K Y.top w v c):fZ E B0 new Y K w (do pure (.value (<-s))) v Y:=
 .fG (.bV h hs)
theorem fZ.uN {s:Sem Unit}{Y':qd}{K':Ra}{w':World}(h:s.run E.P w= .ok () w')(hs:Step E B0 new Y K w Y' K' w'):fZ E B0 new Y K w (do s;pure .skip) FN Y':=
 ⟨.skip,undef,w',K',by simp[h],.inr ⟨rfl,rfl⟩,.undef _ _ _,hs⟩
theorem jY {fr:Fr}{a:Act}(h:au E B0 Y K w)(hf:bH K Y.top w fr a.tmps)(xs:Array Operand):(xs.toList.map (fr.ev E)).length=(xs.map a.eval).size/\∀i,i< (xs.toList.map (fr.ev E)).length->Rel K Y.top w ((xs.toList.map (fr.ev E)).getD i FN) ((xs.map a.eval).getD i undef):=by
 refine⟨by simp,fun i hi=>?_⟩;have hi':i<xs.size:=by simpa using hi
 have e1:(xs.toList.map (fr.ev E)).getD i FN=fr.ev E xs[i]:=by simp[List.getD,hi']
 have e2:(xs.map a.eval).getD i undef=a.eval xs[i]:=by simp[Array.getD,hi']
 rw[e1,e2];exact fV h hf _
theorem uO {v:V}{c:Value}{b:Bool}(hr:Rel K T w v c)(h:dI v=some b):c= .bool b:=by
 cases v<;>simp only[dI,reduceCtorEq,iE] at h;subst h;cases hr;rfl
theorem zQ (h:au E B0 Y K w)(hB:B0<=w.heap.size){st:Nat}(hst:¬K.A st)(loc:Loc)(t:TypeId){x:V}{cx:Value}(hx:Rel K Y.top w x cx)(hraw:SK x=true):
 Done E B0 (· =st) Y K w (do pure (.pointer (some (<-newVar t cx)))) (.ref loc st 0) (Y.setObj loc st (.cells x.cells)):=by
 obtain⟨h1,h2⟩:=jq hx hraw;have hstep:=Step.qE h hB hst loc (.cells x.cells) (.cells cx.cells t) cx.cells.size (fun K' e' _ hb' hs'=>
  ⟨fun h0=>by rw[hs',<-h1,h0];rfl,fun _=>⟨by rw[hb'];exact hB,_,t,by rw[hb'];exact heap_alloc_new w _,hs'.symm,by rw[h1];exact mF _,fun i hi=>(h2 i hi).ext e'⟩⟩)
 refine⟨.pointer (some (at_ w.heap.size 0)),_,_,by simp[newVar,newRow],?_,hstep⟩;have key:Rel (K.bZ st w.heap.size cx.cells.size loc) (Y.setObj loc st (.cells x.cells)).top (w.alloc (.cells cx.cells t)) (.ref loc st 0) (.pointer (some (at_ ((K.bZ st w.heap.size cx.cells.size loc).blk st) 0))):=.ref loc st 0 (Or.inr rfl);have hblk:(K.bZ st w.heap.size cx.cells.size loc).blk st=w.heap.size:=upd_same _ _ _;rw[hblk] at key;exact key
theorem GX (h:au E B0 Y K w)(hB:B0<=w.heap.size){st:Nat}(t:TypeId){x:V}{cx:Value}(hx:Rel K Y.top w x cx)(hraw:SK x=true):
 Done E B0 (· =st) Y K w (do pure (.pointer (some (<-newVar t cx)))) (.Q5 x.cells 0) Y:=by
 obtain⟨h1,h2⟩:=jq hx hraw;have hst:=Step.yX (new:=(· =st)) h hB cx.cells t (0,0);refine⟨.pointer (some (at_ w.heap.size 0)),_,_,by simp[newVar,newRow],?_,hst⟩;have hcell:∀j,j<cx.cells.size->(w.alloc (.cells cx.cells t)).cell? (at_ w.heap.size (0+j))=some (cx.cells.getD j undef):=fun j hj=>by rw[Qi];exact oh hj
 exact .Q5 x.cells 0 w.heap.size 0 (fun j=>cx.cells.getD j undef) (fun j hj=>⟨hcell j (by omega),.inr ⟨rfl,by omega⟩⟩) (fun j hj=>(h2 j hj).ext hst.ext)
theorem GY (h:au E B0 Y K w)(hB:B0<=w.heap.size){st:Nat}(hst:¬K.A st)(loc:Loc)(t:TypeId):
 Done E B0 (· =st) Y K w (Instr.makeMap t none) (.RA loc st) (Y.setObj loc st (.map [] [])):=by
 have hstep:=Step.qE h hB hst loc (.map [] []) (.map #[] 0) 0 (fun K' e' _ hb' hs'=>
  ⟨by rw[hb'];exact hB, #[],0,by rw[hb'];exact heap_alloc_new w _,rfl,rfl,fun i hi=>absurd hi (PS i),fun i hi=>absurd hi (PS i)⟩)
 refine⟨.map (some w.heap.size),_,_,by simp[Instr.makeMap],?_,hstep⟩;have key:Rel (K.bZ st w.heap.size 0 loc) (Y.setObj loc st (.map [] [])).top (w.alloc (.map #[] 0)) (.RA loc st) (.map (some ((K.bZ st w.heap.size 0 loc).blk st))):=.RA loc st (Or.inr rfl);have hblk:(K.bZ st w.heap.size 0 loc).blk st=w.heap.size:=upd_same _ _ _;rw[hblk] at key;exact key
def Ra.freeze (K:Ra)(b n:Nat):Ra:={K with I:=fun b' o=>K.I b' o\/(b'=b/\o<n),Z:=upd K.Z b none}
theorem zR (K:Ra)(T:Nat->Nat)(w:World)(b n:Nat):Ext K T w (K.freeze b n) T w:=
 ⟨fun _ h=>⟨h,rfl,rfl,rfl⟩,fun _ _=>.inl ⟨rfl,rfl,rfl,rfl⟩,fun _ _ h=>⟨.inl h,rfl⟩,fun _ h=>⟨h,rfl⟩⟩
theorem Step.freeze (h:au E B0 Y K w){loc:Loc}{s:Nat}{cs:List V}(hs:Y.obj loc=some (s,.cells cs))(hne:cs≠[]){n:Nat}(hn:∀i,i<n->∃v,w.cell? (at_ (K.blk s) i)=some v):
 Step E B0 new Y K w (Y.bF loc) (K.freeze (K.blk s) n) w:=by
 obtain⟨a1,a2,a3⟩:=h.obj loc s _ hs;obtain⟨b1,_⟩:=a2.2 hne;have hZ:K.Z (K.blk s)=some (.obj loc):=a3 (by cases cs with|nil=>exact absurd rfl hne|cons _ _=>trivial);have e:=zR K Y.top w (K.blk s) n;have hne':∀b r,K.Z b=some r->r≠ .obj loc->b≠K.blk s:=fun b r h1 h2 e=>by rw[e,hZ] at h1;exact h2 (P9 h1).symm
 refine⟨⟨fun loc' s' ob hs'=>?_,fun s' hA hlt=>?_,fun b o hi=>?_,fun b hi=>?_,fun l r hl=>?_,fun g cs hg=>(h.glob g cs hg).ext e,fun b r hr=>?_,h.D⟩,e,.refl _ _,fun _ h=>h,fun _ h=>.inl h,fun b o hi=>?_,fun _ h=>.inl h⟩
 .by_cases hl:loc'=loc
  .subst hl;simp[qd.bF,upd_same] at hs'
  .simp only[qd.bF,upd_ne _ _ hl] at hs';obtain⟨g1,g2,g3⟩:=h.obj loc' s' ob hs';refine⟨g1,g2.ext e g1 (fun _=>rfl),fun hr=>?_⟩;have h1:=g3 hr;have h2:K.blk s'≠K.blk s:=hne' _ _ h1 (fun e=>hl (by cases e;rfl));show upd K.Z (K.blk s) none (K.blk s')=_;rw[upd_ne _ _ h2];exact h1
 .obtain⟨g1,g2,g3⟩:=h.own s' hA hlt;have h2:K.ob s'≠K.blk s:=hne' _ _ g2 (fun e=>by cases e);refine⟨g1,?_,fun o h3 h4=>?_⟩
  .show upd K.Z (K.blk s) none (K.ob s')=_;rw[upd_ne _ _ h2];exact g2
  .obtain⟨c1,c2,c3⟩:=g3 o h3 h4;exact⟨fun hi=>hi.elim c1 (fun hi=>h2 hi.1),c2,c3⟩
 .have hk:∀loc',(K.freeze (K.blk s) n).Z b≠some (.obj loc')\/K.Z b=some (.obj loc'):=fun loc'=>by
   by_cases hb:b=K.blk s
   .left;show upd K.Z (K.blk s) none b≠_;rw[hb,upd_same];simp
   .by_cases hq:K.Z b=some (.obj loc')
    .exact .inr hq
    .left;show upd K.Z (K.blk s) none b≠_;rw[upd_ne _ _ hb];exact hq
  rcases hi with hi| ⟨rfl,hi⟩
  .obtain⟨g1,g2⟩:=h.I b o hi;exact⟨g1,fun loc'=>(hk loc').resolve_right (g2 loc')⟩
  .refine⟨hn o hi,fun loc'=>?_⟩;show upd K.Z (K.blk s) none (K.blk s)≠_;rw[upd_same];simp
 .obtain⟨g1,g2⟩:=h.IM b hi;refine⟨g1,fun loc'=>?_⟩;show upd K.Z (K.blk s) none b≠_;by_cases hb:b=K.blk s
  .rw[hb,upd_same];simp
  .rw[upd_ne _ _ hb];exact g2 loc'
 .obtain⟨g1,g2⟩:=h.loop l r hl;have h2:K.lp l≠K.blk s:=hne' _ _ g2.2.1 (fun e=>by cases e);exact⟨g1,g2.ext e g1 rfl (upd_ne _ _ h2)⟩
 .have hr':upd K.Z (K.blk s) none b=some r:=hr;by_cases hb:b=K.blk s
  .rw[hb,upd_same] at hr';cases hr'
  .rw[upd_ne _ _ hb] at hr';exact h.rb b r hr'
 .rcases hi with hi| ⟨rfl,_⟩
  .exact .inl hi
  .exact .inr b1
theorem GZ (h:au E B0 Y K w){x v:V}{c:Value}{Y':qd}(hr:Rel K Y.top w x c)(hv:iq Y x=some (v,Y')):∃K',Rel K' Y'.top w v c/\Step E B0 new Y K w Y' K' w:=by
 unfold iq at hv;split at hv
 .rename_i loc s off len cap aD ag;simp only[iP] at hv;obtain⟨cs,hcs,hv⟩:=hv;split at hv
  .rename_i hc;obtain⟨hlen,hag⟩:=hc;simp only[iE,iR] at hv;obtain⟨rfl,rfl⟩:=hv;have oI:ag=false->aD=1:=fun e=>by simp[e] at hag;exact hag.1
   have oJ:ag=false->RP (((cs.drop off).take (len*aD)).map aN)=true:=fun e=>by simp only[e,Bool.false_or,Pz] at hag;exact hag.2
   cases hr with
   |dQ _ _ _ _ hA=>exact⟨K,.aX .sh none (fun _=>rfl) trivial,.bF h loc⟩
   |vw _ _ _ _ _ _ _ aR hA hcp hle hsz=>
    by_cases hne:cs=[]
    .subst hne;have h0:len*aD=0:=(by simp at hlen;omega);refine⟨K,?_,.bF h loc⟩;exact ow (w:=w) (val:=fun _=>undef) oI (by rw[h0];exact Qk _) oJ (fun j hj=>by omega) (fun j hj=>by omega) (by omega) trivial
    .obtain⟨g1,_,_⟩:=h.jU hcs;obtain⟨a1,a2,a3⟩:=h.obj _ _ _ g1;obtain⟨b1,vals,t,b2,b3,b4,b5⟩:=a2.2 hne;have e6:∀i,i<vals.size->w.cell? (at_ (K.blk s) i)=some (vals.getD i undef):=fun i hi=>by simp[World.cell?,b2,Array.getD,hi]
     refine⟨K.freeze (K.blk s) vals.size,?_,.freeze h g1 hne (fun i hi=>⟨_,e6 i hi⟩)⟩;have hl':((cs.drop off).take (len*aD)).length=len*aD:=(by simp;omega);refine ow (w:=w) (val:=fun i=>vals.getD (off+i) undef) oI (by simp;omega) oJ (fun j hj=>⟨e6 _ (by omega),.inr ⟨rfl,by omega⟩⟩) (fun j hj=>?_) (by omega) trivial;have hj':j< ((cs.drop off).take (len*aD)).length:=(by omega);have e1:(((cs.drop off).take (len*aD)).map aN).getD j FN=aN (cs.getD (off+j) FN):=(by rw[<-iW,<-iA (cs.drop off) hj,cZ (by simpa using hj'),cZ hj'];simp);rw[e1];exact(oD (b5 _ (by omega))).ext (zR _ _ _ _ _)
  .simp at hv
 .rename_i cc l;simp only[iE,iR] at hv;obtain⟨rfl,rfl⟩:=hv;exact⟨K,oD hr,.refl h⟩
 .simp only[iE,iR] at hv;obtain⟨rfl,rfl⟩:=hv;exact⟨K,hr,.refl h⟩
theorem G5 {t xt:TypeId}{ok:Bool}{x v:V}{cx:Value}(hx:Rel K Y.top w x cx)(hv:tK E.P t ok x=some v):
 ∃c,(Instr.typeAssert cx xt t ok).run E.P w= .ok c w/\Rel K Y.top w v c:=by
 unfold tK at hv;have two:∀{a b:V}{ca cb:Value},Rel K Y.top w a ca->Rel K Y.top w b cb->Rel K Y.top w (.Rm [a,b]) (.tuple #[ca,cb]):=fun {a b ca cb} ha hb=>.Rm _ _ rfl (fun i hi=>by
  match i,hi with
  |0,_=>exact ha|1,_=>exact hb)
 split at hv
 .cases hv
 .cases hv
 .rename_i d hni hd;have hu:(underlying t).run E.P w= .ok d w:=run_underlying hd w;split at hv
  .rename_i u y;cases hx with
   |iface _ _ c hr=>
   split at hv
   .rename_i hut;subst hut;simp only[iE] at hv;cases ok with
    |true=>simp only[if_true] at hv;subst hv;refine⟨_,?_,two hr (.bool true)⟩;cases d<;>first| (exact absurd rfl (hni _))|simp[Instr.typeAssert,hu]
    |false=>simp only[PE,if_false] at hv;subst hv;refine⟨_,?_,hr⟩;cases d<;>first| (exact absurd rfl (hni _))|simp[Instr.typeAssert,hu]
   .rename_i hut;split at hv
    .rename_i hok;subst hok;simp only[Py] at hv;obtain⟨z,hz,rfl⟩:=hv;obtain⟨c,h1,h2⟩:=jr (w:=w) hz;refine⟨_,?_,two (h2 _ _) (.bool false)⟩;cases d<;>first| (exact absurd rfl (hni _))|simp[Instr.typeAssert,hu,hut,h1]
    .cases hv
  .cases hx;split at hv
   .rename_i hok;subst hok;simp only[Py] at hv;obtain⟨z,hz,rfl⟩:=hv;obtain⟨c,h1,h2⟩:=jr (w:=w) hz;refine⟨_,?_,two (h2 _ _) (.bool false)⟩;cases d<;>first| (exact absurd rfl (hni _))|simp[Instr.typeAssert,hu,h1]
   .cases hv
  .cases hv
theorem G6 (h:au E B0 Y K w)(hB:B0<=w.heap.size){fr:Fr}{a:Act}(hf:bH K Y.top w fr a.tmps){st:Nat}(hst:¬K.A st){o:Oper}{v:V}{Y':qd}(hv:aH E fr Y st o=some (v,Y')):
 fZ E B0 (· =st) Y K w (execOp a.eval o) v Y':=by
 have ev:=fun x=>fV h hf x;unfold aH at hv;unfold execOp;split at hv
 .rename_i x hop;split at hv
  .obtain⟨K',r1,r2⟩:=GZ (new:=(· =st)) h (ev x) hv;simp only[hop];exact⟨.value (a.eval x),a.eval x,w,K',rfl,.inl rfl,r1,r2⟩
  simp only[iE,iR] at hv;obtain⟨rfl,rfl⟩:=hv;simp only[hop];exact⟨.value (a.eval x),a.eval x,w,K,rfl,.inl rfl,ev x,.refl h⟩
 .rename_i x hop;simp only[iE,iR] at hv;obtain⟨rfl,rfl⟩:=hv;simp only[hop];exact⟨.value (a.eval x),a.eval x,w,K,rfl,.inl rfl,ev x,.refl h⟩
 .rename_i c x y hop;simp only[Py,iR] at hv;obtain⟨b,hb,rfl,rfl⟩:=hv;simp only[hop];have hc:=uO (ev c) hb;refine⟨.value (if b then a.eval x else a.eval y),_,w,K,by simp[asBool,hc],.inl rfl,?_,.refl h⟩;cases b
  .exact ev y
  .exact ev x
 .rename_i t hop;simp only[iP] at hv;obtain⟨loc,_,z,hz,hv⟩:=hv;split at hv
  .simp only[iE,iR] at hv;obtain⟨rfl,rfl⟩:=hv;simp only[hop];obtain⟨cz,hz1,hz2⟩:=jr w hz;obtain⟨c,w',K',r1,r2,r3⟩:=zQ h hB hst loc t (hz2 K Y.top) (mE hz);refine .fG ⟨c,w',K',?_,r2,r3⟩;simp only[Instr.alloc,Sem.run_bind,hz1,Result.andThen_ok];exact r1
  .simp at hv
 .rename_i t x hop;split at hv
  .split at hv
   .rename_i hc;simp only[iE,iR] at hv;obtain⟨rfl,rfl⟩:=hv;simp only[hop];exact .fG (GX h hB t (zA (ev x)) (Gh hc.2))
   .simp at hv
  simp only[iP] at hv;obtain⟨loc,_,hv⟩:=hv;split at hv
  .rename_i hc;simp only[iE,iR] at hv;obtain⟨rfl,rfl⟩:=hv;simp only[hop];exact .fG (zQ h hB hst loc t (ev x) hc.2)
  .simp at hv
 .rename_i t parts hop;simp only[iP,Py,iR] at hv;obtain⟨pl,hpl,z,hz,cs,hcs,rfl,rfl⟩:=hv;simp only[hop];refine .bV h (Gg hpl hz ?_ (mE hz) hcs);rw[Array.toList_map];exact qJ h hf _
 .rename_i t len parts hop;split at hv
  .simp only[hop];refine .fG (GK h hB hst ?_ hv);rw[Array.toList_map];exact qJ h hf _
  .simp only[Py,iR] at hv;obtain⟨v',hv',rfl,rfl⟩:=hv;simp only[hop];refine .fG (Gj h hB ?_ hv');rw[Array.toList_map];exact qJ h hf _
 .rename_i t x hop;simp only[hop];have hx:=ev x;generalize fr.ev E x=xv at hv hx;cases xv with
  |ref loc s off=>simp only[iP,Py,iR] at hv;obtain⟨cs,h1,v',h2,rfl,rfl⟩:=hv;exact .bV h (uD h hx (by simp[h1,h2]))
  |Q5 cs off=>simp only[Py,iR] at hv;obtain⟨v',h2,rfl,rfl⟩:=hv;exact .bV h (uD h hx h2)
  |_=>simp at hv
 .rename_i t p x hop;simp only[hop];have hp:=ev p;have hx:=ev x;generalize fr.ev E p=pv at hv hp;cases pv with
  |ref loc s off=>
   simp only[iP] at hv;obtain⟨cs,hcs,hv⟩:=hv;split at hv
   .rename_i hc;simp only[iE,iR] at hv;obtain⟨rfl,rfl⟩:=hv;obtain⟨w',r1,r2⟩:=F8 (new:=(· =st)) h hB hp hx hcs hc.1 hc.2.1 hc.2.2;exact .uN r1 r2
   .simp at hv
  |_=>simp at hv
 .rename_i x hop;simp only[hop];have hx:=ev x;generalize fr.ev E x=xv at hv hx;cases xv with
  |ref loc s off=>simp only[iE,iR] at hv;obtain⟨rfl,rfl⟩:=hv;generalize a.eval x=cx at hx;cases hx with|ref _ _ _ hA=>exact⟨_,_,w,K,rfl,.inl rfl,.ref loc s off hA,.refl h⟩
  |Q5 cs off=>simp only[iE,iR] at hv;obtain⟨rfl,rfl⟩:=hv;generalize a.eval x=cx at hx;have hx':=hx;cases hx with|Q5 _ _ b o val h1 h2=>exact⟨_,_,w,K,rfl,.inl rfl,hx',.refl h⟩
  |fn f g l=>
   cases f with
   |func f=>simp only[iE,iR] at hv;obtain⟨rfl,rfl⟩:=hv;generalize a.eval x=cx at hx;have hx':=hx;cases hx with|fn _ _ _ av bv h1 h2 h3 h4=>exact⟨_,_,w,K,rfl,.inl rfl,hx',.refl h⟩
   |_=>simp at hv
  |_=>simp at hv
 .rename_i op t x y _ hop;simp only[Py,iR] at hv;obtain⟨v',hv',rfl,rfl⟩:=hv;simp only[hop];exact .bV h (FX w x y (ev x) (ev y) hv')
 .rename_i op t x hop;simp only[Py,iR] at hv;obtain⟨v',hv',rfl,rfl⟩:=hv;simp only[hop];exact .bV h (FY w (ev x) hv')
 .rename_i s d x hop;simp only[Py,iR] at hv;obtain⟨v',hv',rfl,rfl⟩:=hv;simp only[hop];exact .fG (F5 h hB (ev x) hv')
 .rename_i t x hop;simp only[iP] at hv;obtain⟨⟨n,e⟩,hn,hv⟩:=hv;have hu:=za hn;simp only[hop];have hx:=ev x;generalize fr.ev E x=xv at hv hx;generalize a.eval x=cx at hx;cases xv with
  |vw loc s off len cap aD ag=>
   simp only at hv;split at hv
   .rename_i hle;simp only[iE,iR] at hv;obtain⟨rfl,rfl⟩:=hv;cases hx with
    |dQ=>omega|vw _ _ _ _ _ _ _ aR hA hcc hlc hsz=>have:¬(len<n):=(by omega);exact .bV h ⟨_,by simp[Instr.arrayAt,run_underlying hu,this],.ref loc s off hA⟩
   .simp at hv
  |tX c l=>
   simp only at hv;split at hv
   .rename_i hc;obtain⟨c1,c2,c3⟩:=hc;simp only[iE,iR] at hv;obtain⟨rfl,rfl⟩:=hv;cases hx with
    |aX=>simp at c2;omega|tX _ _ b o m cap val hle hn hcell hrel hcap=>
     have hlt:¬(l.length<n):=(by omega);have hone:∀i,i<l.length->(l.getD i FN).cells=[l.getD i FN]:=fun i hi=>by simp only[RP,P7] at c3;have:=c3 _ (Qw hi);rw[cZ hi];revert this;cases l[i]<;>simp[oneCell,V.cells]
     have hm:m=1:=(by have h0:0<l.length:=(by omega);rw[<-hn 0 h0,hone 0 h0];rfl);subst hm;refine .bV h ⟨.pointer (some (at_ b (o+0))),by simp[Instr.arrayAt,run_underlying hu,hlt],.Q5 (l.take n) 0 b o (fun j=>val j 0) (fun j hj=>?_) (fun j hj=>?_)⟩
     .have hj':j<l.length:=(by rw[Qb] at hj;omega);have:=hcell j 0 hj' (by omega);simpa using this
     .have hj':j<l.length:=(by rw[Qb] at hj;omega);have hjn:j<n:=(by rw[Qb] at hj;omega);have:=hrel j 0 hj' (by omega);rw[hone j hj'] at this;have e:(l.take n).getD j FN=l.getD j FN:=(by rw[QL,QL,List.getElem?_take_of_lt hjn]);rw[e];simpa using this
   .simp at hv
  |_=>simp at hv
 .rename_i t x hop;simp only[hop];split at hv
  .simp at hv
  .rename_i d hu hd;simp only[iE,iR] at hv;obtain⟨rfl,rfl⟩:=hv;refine .bV h ⟨.iface t (a.eval x),?_,.iface t _ _ (ev x)⟩;simp only[Instr.makeInterface,Sem.run_bind,run_underlying hd,Result.andThen_ok];rfl
  .simp at hv
 .rename_i f p q hop;simp only[iE,iR] at hv;obtain⟨rfl,rfl⟩:=hv;simp only[hop];obtain⟨h1,h2⟩:=jY h hf p;obtain⟨h3,h4⟩:=jY h hf q;exact .bV h ⟨_,rfl,.fn f _ _ _ _ h1 h3 h2 h4⟩
 .rename_i t hop;simp only[Py,iR] at hv;obtain⟨loc,_,rfl,rfl⟩:=hv;simp only[hop];exact .fG (GY h hB hst loc t)
 .rename_i t l c hop;simp only[hop];exact .fG (GJ h hB hst (ev l) (ev c) hv)
 .rename_i t x lo hi mx hop;simp only[Py,iR] at hv;obtain⟨v',hv',rfl,rfl⟩:=hv;simp only[hop];have opt:∀(p:Option Operand) v,dx E fr p=some v->∃c,p.map a.eval=some c/\Rel K Y.top w v c:=by
   intro p v hp;cases p with
   |none=>simp[dx] at hp|some p=>simp only[dx,iE] at hp;subst hp;exact⟨_,rfl,ev p⟩
  have uP:∀(p:Option Operand),dx E fr p=none->p.map a.eval=none:=by
   intro p hp;cases p with
   |none=>rfl|some p=>simp[dx] at hp
  exact .bV h (FZ w rfl h (ev x) (opt lo) (uP lo) (opt hi) (uP hi) (opt mx) (uP mx) hv')
 .rename_i t x f hop;simp only[iP] at hv;obtain⟨⟨o',u⟩,hfi,hv⟩:=hv;simp only[hop];have hx:=ev x;generalize fr.ev E x=xv at hv hx;cases xv with
  |ref loc s off=>simp only[iE,iR] at hv;obtain⟨rfl,rfl⟩:=hv;exact .bV h (zm hx hfi rfl)
  |Q5 cs off=>simp only[iE,iR] at hv;obtain⟨rfl,rfl⟩:=hv;exact .bV h (zm hx hfi rfl)
  |_=>simp at hv
 .rename_i t x f hop;simp only[iP] at hv;obtain⟨⟨o',u⟩,hfi,hv⟩:=hv;simp only[hop];have hx:=ev x;generalize fr.ev E x=xv at hv hx;generalize a.eval x=cx at hx;cases xv with
  |agg cs=>
   simp only[Py,iR] at hv;obtain⟨v',hv',rfl,rfl⟩:=hv;cases hx with|agg _ vs hl hr=>
   obtain⟨fs,g,n,hu,hg,rfl,rfl,hn⟩:=zf hfi;obtain⟨c,r1,r2⟩:=mG (P:=E.P) (w:=w) hl hr hv';exact .bV h ⟨c,by simp[Instr.field,run_underlying hu,hg,asAgg,r1],r2⟩
  |_=>simp at hv
 .rename_i t x i hop;simp only[Py,iR] at hv;obtain⟨v',hv',rfl,rfl⟩:=hv;simp only[hop];exact .bV h (F6 (ev x) (ev i) hv')
 .rename_i t x i hop;simp only[Py,iR] at hv;obtain⟨v',hv',rfl,rfl⟩:=hv;simp only[hop];exact .bV h (F7 (ev x) (ev i) hv')
 .rename_i t x i ok hop;simp only[Py,iR] at hv;obtain⟨v',hv',rfl,rfl⟩:=hv;simp only[hop];exact .bV h (Gb h (ev x) (ev i) hv')
 .rename_i t m k x hop;simp only[Py,iR] at hv;obtain⟨Y1,hv',rfl,rfl⟩:=hv;simp only[hop];obtain⟨w',r1,r2,_⟩:=zw (new:=(· =st)) h hB (ev m) (ev k) (ev x) hv';exact .uN r1 r2
 .rename_i t m k x hop;simp only[Py,iR] at hv;obtain⟨Y1,hv',rfl,rfl⟩:=hv;simp only[hop];obtain⟨w',r1,r2,_⟩:=zw (new:=(· =st)) h hB (ev m) (ev k) (ev x) hv';exact .uN r1 r2
 .rename_i x i hop;simp only[hop];have hx:=ev x;generalize fr.ev E x=xv at hv hx;generalize a.eval x=cx at hx;cases xv with
  |Rm vs=>
   simp only[Py,iR] at hv;obtain⟨v',hv',rfl,rfl⟩:=hv;cases hx with|Rm _ zS hl hr=>
   have hi:i<vs.length:=(Qq.1 hv').1;have hi':i<zS.size:=by omega
   refine .bV h ⟨zS[i],by simp[Instr.extract,hi'],?_⟩;have:=hr i hi;rw[cZ hi,mD hi'] at this;have e:vs[i]=v':=(Qq.1 hv').2;rw[<-e];exact this
  |_=>simp at hv
 .rename_i x xt t ok hop;simp only[Py,iR] at hv;obtain⟨v',hv',rfl,rfl⟩:=hv;simp only[hop];exact .bV h (G5 (ev x) hv')
 .simp at hv
end
section
variable {E:Env}{B0:Nat}{Y:qd}{K:Ra}{w:World}{new:Nat->Prop}{T:Nat->Nat}
def RelA (K:Ra)(T:Nat->Nat)(w:World)(l:List V)(cl:Array Value):Prop:=l.length=cl.size/\∀i,i<l.length->Rel K T w (l.getD i FN) (cl.getD i undef)
theorem uQ {x:V}{cl:Array Value}(h:RelA K T w [x] cl):∃c,cl= #[c]/\Rel K T w x c:=by
 obtain⟨h1,h2⟩:=h;have hs:cl.size=1:=by simpa using h1.symm
 refine⟨cl[0],?_,?_⟩
 .apply Array.ext
  .simpa using hs
  .intro i h1 h2;obtain rfl:i=0:=by omega
   rfl
 .have:=h2 0 (by simp)
  rwa[mD (by omega)] at this
theorem zT {x y:V}{cl:Array Value}(h:RelA K T w [x,y] cl):∃c d,cl= #[c,d]/\Rel K T w x c/\Rel K T w y d:=by
 obtain⟨h1,h2⟩:=h;have hs:cl.size=2:=by simpa using h1.symm
 refine⟨cl[0],cl[1],?_,?_,?_⟩
 .apply Array.ext
  .simpa using hs
  .intro i h1 h2;have:i=0\/i=1:=by omega
   rcases this with rfl|rfl<;>rfl
 .have:=h2 0 (by simp)
  rwa[mD (by omega)] at this
 .have:=h2 1 (by simp)
  rwa[mD (by omega)] at this
theorem zU {x:V}{l:List V}{cl:Array Value}(h:RelA K T w (x::l) cl):∃c cs,cl.toList=c::cs/\Rel K T w x c/\l.length=cs.length/\∀i,i<l.length->Rel K T w (l.getD i FN) (cs.getD i undef):=by
 obtain⟨h1,h2⟩:=h;cases hc:cl.toList with
 |nil=>
  have:cl.size=0:=by rw[<-Array.length_toList,hc];rfl
  simp[this] at h1
 |cons c cs=>
  have hg:∀i,cl.getD i undef=(c::cs).getD i undef:=fun i=>by rw[<-hc,mM]
  have hl:cl.size=cs.length+1:=by rw[<-Array.length_toList,hc];rfl
  refine⟨c,cs,rfl,?_,by simp at h1;omega,fun i hi=>?_⟩
  .have:=h2 0 (by simp);rw[hg] at this;simpa using this
  .have:=h2 (i+1) (by simp;omega);rw[hg] at this;simpa using this
theorem G7 (h:au E B0 Y K w)(hB:B0<=w.heap.size){om:Bool}{loc:Option Loc}{st:Nat}(hst:¬K.A st){b:Builtin}{tys:Array TypeId}{ty:TypeId}{consts:Array Bool}{args:List V}{Ru:Array Value}{v:V}{Y':qd}(hr:RelA K Y.top w args Ru)(hv:eu E om loc Y st b tys args=some (v,Y')):fZ E B0 (· =st) Y K w (builtin b tys ty consts Ru) v Y':=by
 unfold eu at hv;split at hv
 .rename_i x;simp only[iP,Py,iR] at hv;obtain⟨t,ht,n,hn,rfl,rfl⟩:=hv;obtain⟨c,rfl,hx⟩:=uQ hr;exact .bV h ⟨_,GQ h ht hx hn,.int .i64 n⟩
 .rename_i x;simp only[iP] at hv;obtain⟨t,ht,e,he,hv⟩:=hv;obtain⟨c,rfl,hx⟩:=uQ hr;obtain⟨rfl,r⟩:=GR (ty:=ty) ht (oo he) hv hx;exact .bV h r
 .rename_i x y;simp only[iP] at hv;obtain⟨t,ht,u,⟨tx,htx,hu⟩,hv⟩:=hv;obtain⟨c,d,rfl,hx,hy⟩:=zT hr;have he:Builtin.append_ tys ty #[c,d]=Builtin.append_ #[t,tx] ty #[c,d]:=by simp[Builtin.append_,ht,htx]
  show fZ E B0 _ Y K w (do pure (.value (<-Builtin.append_ tys ty #[c,d]))) v Y';rw[he];split at hv
  .rename_i k;exact .fG (uM h hB hst hx hy (fun _=>⟨k,hu⟩) (fun hf=>by cases hf) hv)
  .rename_i e;exact .fG (uM h hB hst hx hy (fun hf=>by cases hf) (fun _=>.inl ⟨e,hu⟩) hv)
  .exact .fG (uM h hB hst hx hy (fun hf=>by cases hf) (fun _=>.inr hu) hv)
  .simp at hv
 .rename_i x y;simp only[iP] at hv;obtain⟨t,ht,hv⟩:=hv;obtain⟨c,d,rfl,hx,hy⟩:=zT hr;have he:Builtin.copy_ tys ty #[c,d]=Builtin.copy_ #[t,t] ty #[c,d]:=by simp[Builtin.copy_,ht]
  show fZ E B0 _ Y K w (do pure (.value (<-Builtin.copy_ tys ty #[c,d]))) v Y';rw[he];exact .fG (GL h hB hx hy hv)
 .rename_i x;simp only[iP] at hv;obtain⟨t,ht,hv⟩:=hv;obtain⟨c,rfl,hx⟩:=uQ hr;have he:Builtin.clear_ tys ty #[c]=Builtin.clear_ #[t] ty #[c]:=by simp[Builtin.clear_,ht]
  show fZ E B0 _ Y K w (do pure (.value (<-Builtin.clear_ tys ty #[c]))) v Y';rw[he];exact .fG (GN h hB hx hv)
 .rename_i x l;simp only[Py,iR] at hv;obtain⟨v',hv',rfl,rfl⟩:=hv;obtain⟨c,cs,hc,hx,hl,hrel⟩:=zU hr;obtain⟨c',r1,r2⟩:=GU l cs x v' c hl hrel hx hv';have he:Builtin.min_ tys ty Ru=cs.foldlM Builtin.min2 c:=by unfold Builtin.min_;rw[hc]
  exact .bV (s:=Builtin.min_ tys ty Ru) h ⟨c',by rw[he];exact r1,r2⟩
 .rename_i x l;simp only[Py,iR] at hv;obtain⟨v',hv',rfl,rfl⟩:=hv;obtain⟨c,cs,hc,hx,hl,hrel⟩:=zU hr;obtain⟨c',r1,r2⟩:=GV l cs x v' c hl hrel hx hv';have he:Builtin.max_ tys ty Ru=cs.foldlM Builtin.max2 c:=by unfold Builtin.max_;rw[hc]
  exact .bV (s:=Builtin.max_ tys ty Ru) h ⟨c',by rw[he];exact r1,r2⟩
 .simp at hv
end
def FW (ro:Option Nat):Fence:={Fence.wide with round:=ro}
structure iF where
 l:List Deferred
 B:Nat
 nm:Bool
def mark (b:Nat):Deferred:=⟨.collected b, #[]⟩
structure St (E:Env)(B0:Nat)(Y:qd)(K:Ra)(w:World)(fr:Fr)(a:Act)(n:Nat)(ds:iF):Prop where
 ok:au E B0 Y K w
 hB:B0<=w.heap.size
 fr:bH K Y.top w fr a.tmps
 sz:a.tmps.size=n
 df:∃bs:List Nat,a.defers=bs.map mark++ds.l/\bs.Nodup/\(∀b∈bs,K.D b/\ds.B<=b)/\(ds.nm=true->bs=[])
 st:∀s,K.A s->s<Y.next
 hD:ds.B<=w.heap.size
def bX:Ex->Exit->Prop
 |.normal,.normal=>True|.exit i,.exit j=>i=j|.ret,.ret=>True|_,_=>False
def newer (Y Y':qd)(s:Nat):Prop:=Y.next<=s/\s<Y'.next
def jA (E:Env)(B0 n:Nat)(ds:iF)(Y:qd)(K:Ra)(w:World)(e:Ex)(fr':Fr)(Y':qd):Exit->Act->World->Prop:=
 fun x a' w'=>bX e x/\∃K',St E B0 Y' K' w' fr' a' n ds/\Step E B0 (newer Y Y') Y K w Y' K' w'
def iY (E:Env)(code:Code->Fr->qd->Option (Ex×Fr×qd)):Prop:=
 ∀c fr Y e fr' Y',code c fr Y=some (e,fr',Y')->Y.next<=Y'.next/\∀ro B0 K w a n ds,St E B0 Y K w fr a n ds->aK n c=true->(ro=none/\ds.nm=false\/bq c=true)->c.wpIn (FW ro) 0 E.P (jA E B0 n ds Y K w e fr' Y') a w
def gq (E:Env)(B0:Nat)(Y:qd)(K:Ra)(w:World)(v:V)(Y':qd):Ending->World->Prop
 |.returned c,w'=>∃K',Rel K' Y'.top w' v c/\au E B0 Y' K' w'/\(∀s,K'.A s->s<Y'.next)/\Step E B0 (newer Y Y') Y K w Y' K' w'|_,_=>False
def Z9 (E:Env)(f:FuncId):Prop:=∃fn c,E.P.funcs[f]? =some fn/\fn.body=some c
def kY (E:Env)(call:FuncId->List V->Nat->qd->Option (V×qd)):Prop:=
 ∀f args d Y v Y',call f args d Y=some (v,Y')->Y.next<=Y'.next/\Z9 E f/\∀ro B0 K w Ru,au E B0 Y K w->B0<=w.heap.size->(∀s,K.A s->s<Y.next)->RelA K Y.top w args Ru->
  CallsIn (FW ro) 0 E.P f Ru w (gq E B0 Y K w v Y')
structure Sound (E:Env)(S:R7):Prop where
 code:iY E S.code
 call:kY E S.call
theorem Step.widen {E:Env}{B0:Nat}{Y Y1 Y2:qd}{K K1 K2:Ra}{w w1 w2:World}(h:Step E B0 (newer Y Y1) Y K w Y1 K1 w1)(g:Step E B0 (newer Y1 Y2) Y1 K1 w1 Y2 K2 w2)(h1:Y.next<=Y1.next)(h2:Y1.next<=Y2.next):Step E B0 (newer Y Y2) Y K w Y2 K2 w2:=
 (h.mono (fun _ hs=>⟨hs.1,PV hs.2 h2⟩)).trans (g.mono (fun _ hs=>⟨PD h1 hs.1,hs.2⟩))
end Aq
end
