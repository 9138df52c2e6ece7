import Derived.Deep.Upon
import Derived.Test.YtdcnajadcbedkaaGreatDoorF1001
set_option linter.all false
section
namespace aQ
open Go Go.RowKit
section
variable {E:Env}{B0:Nat}{Y:ah}{K:bA}{w:World}{new:Nat->Prop}{T:Nat->Nat}
theorem Step.imp {new new' Y' K' w'}(h:Step E B0 new Y K w Y' K' w')(hn:∀s,new s->K.A s\/new' s):Step E B0 new' Y K w Y' K' w':=
 ⟨h.ok,h.ext,h.below,h.D,fun s hs=>(h.A s hs).elim .inl (hn s),h.zn,h.zo⟩
theorem agC {sz:Nat}{l ys:List V}{olds news:List Value}(h:mq K T w sz l olds)(g:mq K T w sz ys news)(hl:olds.length=l.length*sz):mq K T w sz (l++ys) (olds++news):=by
 intro i hi;by_cases h1:i<l.length
 .rw[uj h1];refine⟨(h i h1).1,fun j hj=>?_⟩;have:=mul_lt h1 hj;rw[uj RS];exact(h i h1).2 j hj
 .have h1':l.length<=i:=Nat.not_lt.1 h1;have h2:i-l.length<ys.length:=by simp at hi;omega
  rw[um h1'];refine⟨(g _ h2).1,fun j hj=>?_⟩;have hm:i*sz=(i-l.length)*sz+l.length*sz:=by rw[<-qK];congr 1;omega
  rw[um RS,show i*sz+j-olds.length=(i-l.length)*sz+j by omega];exact(g _ h2).2 j hj
theorem Wn {sz:Nat}{ys:List V}{news:List Value}(h:mq K T w sz ys news)(hl:news.length=ys.length*sz)(hone:ys.all (fun v=>dx v.cells)=true):∀u∈news,u.oneCell'=true:=by
 intro u hu;obtain⟨q,hq,rfl⟩:=GH.1 hu;have hsz:0<sz:=by
  rcases Nat.eq_zero_or_pos sz with h0|h0
  .subst h0;omega
  .exact h0
 have hi:q/sz<ys.length:=Nat.div_lt_of_lt_mul (by rw[uY];omega);have hj:=Nat.mod_lt q hsz;obtain⟨h1,h2⟩:=h _ hi;have hr:=h2 _ hj;rw[uY,Nat.div_add_mod,kK hq] at hr;simp only[lK,dx] at hone;have h3:=hone _ (lM hi);rw[kK hi] at h1 hr;have h4:=h3 _ (lM (show q% sz<_ by omega));rw[kK RS] at hr;simpa using (agk hr h4).1
theorem apT (h:bH E B0 Y K w){ag:Bool}{sz n:Nat}{tx e:TypeId}{z:V}{y:V}{cy cz:Value}{ys:List V}{zeros:Bool}(hy:Rel K Y.top w y cy)(hz:Rel K Y.top w z cz)(hraw:fE z=true)(hzl:z.cells.length=sz)(hag:(ag||sz==1)=true)(hk:zeros=true->∃k,E.P.underlying tx=some (.int k))(hk':zeros=false->(∃e',E.P.underlying tx=some (.slice e'))\/E.P.underlying tx=some .string)(hzi:zeros=zk y)(hv:nQ Y ag sz z y=some ys)(hone:ys.all (fun v=>dx v.cells)=true)(hn:n=ys.length):∃news,zq E.P w sz n tx cz cy news/\mq K Y.top w sz ys news:=by
 subst hn;let _:=e
 have fin:∀cells,Src E.P w sz ys.length cy cells->(∀w',(Builtin.lenOf cy).run E.P w'= .ok ys.length w')->zeros=false->mq K Y.top w sz ys cells->∃news,zq E.P w sz ys.length tx cz cy news/\mq K Y.top w sz ys news:=
  fun cells hs hl apU hr=>⟨cells,⟨hs.1,Wn hr hs.1 hone,.inl ⟨hk' apU,hl,hs.2⟩⟩,hr⟩
 cases y with
 |int k m=>
  simp only[nQ] at hv;split at hv
  .rename_i hm;simp only[iE] at hv;subst hv;cases hy;obtain⟨k',hk0⟩:=hk hzi;have hr:=Wi hz hraw hzl m.toNat;have hcs:cz.cells.size=sz:=by rw[<-(Cg hz hraw).1,hzl]
   have hzc:Builtin.zeroCells cz.cells m.toNat=(Array.range (m.toNat*sz)).map fun i=>cz.cells[i% cz.cells.size]! :=by unfold Builtin.zeroCells;rw[hcs]
   have hlen:(List.replicate m.toNat z).length=m.toNat:=List.length_replicate;have hrc:mq K Y.top w sz (List.replicate m.toNat z) (Builtin.zeroCells cz.cells m.toNat).toList:=by intro i hi;rw[hlen] at hi;have hg:(List.replicate m.toNat z).getD i aP=z:=(by simp[List.getD,hi]);rw[hg];refine⟨hzl,fun j hj=>?_⟩;have hq:=mul_lt hi hj;have:=hr.2 (i*sz+j) (by simp[hzl];exact hq);have hm:(i*sz+j)% sz=j:=(by rw[uY,Nat.mul_add_mod,El hj]);rw[Wh z.cells sz hzl RS _ _ hq,hm] at this;rw[hzc,QV];exact this
   have hnl:(Builtin.zeroCells cz.cells m.toNat).toList.length=m.toNat*sz:=by rw[hzc];simp
   refine⟨_,⟨by rw[hlen];exact hnl,Wn hrc (by rw[hlen];exact hnl) hone,.inr ⟨⟨k',k,hk0,?_⟩,by rw[hlen],hcs⟩⟩,hrc⟩;rw[hlen,GI hm.1]
  .simp at hv
 |ak c l=>
  simp only[nQ] at hv;split at hv
  .rename_i hs;simp only[iE] at hv;subst hv;obtain⟨cells,h1,h2⟩:=apQ (E:=E) hy hs;refine fin cells h1 (fun w'=>?_) hzi h2;cases hy<;>rfl
  .simp at hv
 |str s=>
  simp only[nQ] at hv;split at hv
  .rename_i hs;simp only[iE] at hv;subst hv;subst hs;obtain⟨cells,h1,h2⟩:=agz (E:=E) (e:=e) hy;refine fin cells h1 (fun w'=>?_) hzi h2;cases hy with|str _ b hb=>
   subst hb;simp[Builtin.lenOf]
  .simp at hv
 |aS loc s off len cap bF Ci=>
  simp only[nQ] at hv;split at hv
  .simp at hv
  .rename_i he;have he:bF=sz:=by simpa using he
   subst he;simp only[iP] at hv;obtain⟨cs,hcs,hv⟩:=hv;split at hv
   .rename_i hc;simp only[iE] at hv;subst hv;obtain⟨cells,h1,h2⟩:=apS h hy hcs hc.1 hag hc.2;refine fin cells h1 (fun w'=>?_) hzi h2;rw[fH,vB];cases hy<;>rfl
   .simp at hv
 |_=>simp[nQ] at hv
theorem Step.agD {E B0 Y K w}(h:bH E B0 Y K w)(s T' b lo:Nat)(hs:¬K.A s):
 Step E B0 (· =s) Y K w (Y.eB s T') {K with A:=fun x=>K.A x\/x=s,ob:=upd K.ob s b,lo:=upd K.lo s lo,hi:=upd K.hi s lo} w:=by
 have hne:∀x,K.A x->x≠s:=fun x hx e=>hs (e▸hx);have e:Ext K Y.top w {K with A:=fun x=>K.A x\/x=s,ob:=upd K.ob s b,lo:=upd K.lo s lo,hi:=upd K.hi s lo} (Y.eB s T').top w:=
  ⟨fun _ h=>⟨.inl h,rfl,rfl,rfl⟩,fun x hx=>.inl ⟨upd_ne _ _ (hne x hx),upd_ne _ _ (hne x hx),upd_ne _ _ (hne x hx),upd_ne _ _ (hne x hx)⟩,fun b i hi=>⟨hi,rfl⟩,fun b hb=>⟨hb,rfl⟩⟩
 refine⟨?_,e,.refl _ _,fun b hb=>hb,fun _ h=>h,fun b o hi=>.inl hi,fun _ h=>.inl h⟩;refine⟨fun loc x ob hx=>?_,fun x hx hlt=>?_,h.I,h.IM,fun l r hl=>?_,fun g cs hg=>(h.glob g cs hg).ext e,h.rb,h.D⟩
 .obtain⟨a1,a2,a3⟩:=h.obj loc x ob hx;exact⟨.inl a1,a2.ext e a1 (fun _=>rfl),a3⟩
 .by_cases hxs:x=s
  .subst hxs;simp only[upd_same] at hlt;omega
  .simp only[upd_ne _ _ hxs] at hlt;have:=h.own x (hx.resolve_right hxs) hlt;exact⟨by simpa only[upd_ne _ _ hxs] using this.1,by simpa only[upd_ne _ _ hxs] using this.2.1,
    fun o p q=>by simpa only[upd_ne _ _ hxs] using this.2.2 o (by simpa only[upd_ne _ _ hxs] using p) (by simpa only[upd_ne _ _ hxs] using q)⟩
 .obtain⟨a1,a2⟩:=h.loop l r hl;exact⟨.inl a1,a2.ext e a1 rfl rfl⟩
theorem bH.drew (h:bH E B0 Y K w):bH E B0 Y K w.drew:=h.same rfl
theorem Step.draw (h:bH E B0 Y K w):Step E B0 new Y K w Y K w.drew:=Step.same h rfl rfl rfl rfl
theorem agE {olds news:List Value}{zs:Array Value}{q:Nat}(hq:q< (olds++news).length):((olds++news).toArray++zs).getD q undef=(olds++news).getD q undef:=by
 have:q< ((olds++news).toArray++zs).size:=by simp at hq⊢;omega
 have hl:q< (olds++news).toArray.size:=by simpa using hq
 simp only[Array.getD,this,dif_pos];show ((olds++news).toArray++zs)[q]=_;rw[Array.getElem_append_left hl,kK hq];simp
theorem QY (h:bH E B0 Y K w)(hB:B0<=w.heap.size){t tx ty e:TypeId}{i:TypeInfo}{z:Value}{n sLen sCap s:Nat}{cx:Value}{olds news:List Value}{base:Option Addr}{l ys:List V}(ht:E.P.underlying t=some (.slice e))(hi:E.P.info? e=some i)(hz:i.zero=some z)(hzs:z.cells.size=i.size)(hl:sLen=l.length)(hn:n=ys.length)(hs:zq E.P w i.size n tx z cx news)(hold:∀w',w'.heap=w.heap->(Builtin.firstCells i.size sLen (.slice base sLen sCap)).run E.P w'= .ok olds.toArray w')(hol:olds.length=sLen*i.size)(h47:sLen+n<=2^47)(hb:(sLen+n)*i.bytes<=2^47)(hroom:sCap<sLen+n)(rl:mq K Y.top w i.size l olds)(ry:mq K Y.top w i.size ys news)(hst:¬K.A s\/Y.top s<sLen+n):
 Done E B0 (· =s) Y K w (Builtin.append_ #[t,tx] ty #[.slice base sLen sCap,cx]) (.ak (.own i.size s) (l++ys)) (Y.eB s (sLen+n)):=by
 have hrun:=run_append_grow' (ty:=ty) ht hi hz hs hold h47 hb hroom;have hge:=grownCap_ge w (sLen+n) sCap e;generalize grownCap w (sLen+n) sCap e=nc at hrun hge;have hlen:(olds++news).length=(sLen+n)*i.size:=by rw[fG,hol,hs.len,qK]
 have hvs:((olds++news).toArray++Builtin.zeroCells z.cells (nc-(sLen+n))).size=nc*i.size:=by
  rw[Array.size_append];have:(olds++news).toArray.size=(sLen+n)*i.size:=by simpa using hlen
  rw[this];simp only[Builtin.zeroCells,Array.size_map,Array.size_range,hzs];rw[<-qK];congr 1;omega
 have hlo:(sLen+n)*i.size<=((olds++news).toArray++Builtin.zeroCells z.cells (nc-(sLen+n))).size:=by rw[hvs];exact oI _ hge
 have hstep:=(Step.draw (new:=(· =s)) h).trans (Step.apo (w:=w.drew) h.drew hB s (sLen+n) hst ((olds++news).toArray++Builtin.zeroCells z.cells (nc-(sLen+n))) e ((sLen+n)*i.size) hlo);have hll:(l++ys).length=sLen+n:=by rw[fG,hl,hn]
 have rc:=(agC rl ry (by rw[hol,hl])).ext hstep.ext;refine⟨_,_,_,hrun,?_,hstep⟩;have key:Rel (K.Ce s w.drew.heap.size ((sLen+n)*i.size) ((olds++news).toArray++Builtin.zeroCells z.cells (nc-(sLen+n))).size) (Y.eB s (sLen+n)).top
  (w.drew.alloc (.cells ((olds++news).toArray++Builtin.zeroCells z.cells (nc-(sLen+n))) e)) (.ak (.own i.size s) (l++ys)) (.slice (some (at_ w.heap.size 0)) (l++ys).length nc):=by
  refine .ak _ _ w.heap.size 0 i.size nc (fun p q=>(olds++news).getD (p*i.size+q) undef) RS (fun p hp=>(rc p hp).1) (fun p q hp hq=>?_) (fun p q hp hq=>(rc p hp).2 q hq) ?_
  .have hpq:=mul_lt (hll▸hp) hq;refine⟨?_,.inr ⟨rfl,RS⟩⟩;have:=LD (w:=w.drew) (vals:=(olds++news).toArray++Builtin.zeroCells z.cells (nc-(sLen+n))) (t:=e) (fz:=(0,0)) (i:=p*i.size+q) RS;rw[agE RS] at this;rw[o7];exact this
  .refine⟨rfl,.inr rfl,?_,fun _=>⟨?_,?_,?_⟩⟩
   .show _<=upd Y.top s _ s;rw[upd_same,hll];exact iR _
   .show upd K.ob s _ s=_;rw[upd_same];rfl
   .show upd K.lo s _ s=_;rw[upd_same,hll,o7]
   .show upd K.hi s _ s=_;rw[upd_same,hvs,o7]
 rw[hll] at key;exact key
theorem apV (b o:Nat)(v:Value)(w:World):Only b w (w.setCell ⟨b,o,none⟩ v):=
 ⟨rfl,rfl,rfl,by simp[World.setCell],fun k hk _=>by simp[World.setCell,Array.getElem?_modify,Ne.symm hk]⟩
theorem Only.trans {b:Nat}{w w1 w2:World}(h:Only b w w1)(g:Only b w1 w2):Only b w w2:=
 ⟨g.os.trans h.os,g.tape.trans h.tape,g.output.trans h.output,eZ h.size g.size,fun k hk hl=>(g.block k hk (nD hl h.size)).trans (h.block k hk hl)⟩
theorem agF (b:Nat):∀(vs:List Value)(o:Nat)(w:World),Only b w (w.setCells b o vs)
 | [],_,_=>⟨rfl,rfl,rfl,iR _,fun _ _ _=>rfl⟩
 |v::r,o,w=>(apV b o v w).trans (agF b r (o+1) _)
theorem apW (h:bH E B0 Y K w)(hB:B0<=w.heap.size){t tx ty e:TypeId}{i:TypeInfo}{z:Value}{b o cap s:Nat}{cx:Value}{news:List Value}{l ys:List V}(ht:E.P.underlying t=some (.slice e))(hi:E.P.info? e=some i)(hz:i.zero=some z)(hsz:0<i.size)(hys:ys≠[])(hx:Rel K Y.top w (.ak (.own i.size s) l) (.slice (some (at_ b o)) l.length cap))(hhead:oK i.size l=true)(hs:zq E.P w i.size ys.length tx z cx news)(h47:ys.length<=2^47)(hb:ys.length*i.bytes<=2^47)(hroom:l.length+ys.length<=cap)(ry:mq K Y.top w i.size ys news)(hT:Y.top s=l.length):
 Done E B0 new Y K w (Builtin.append_ #[t,tx] ty #[.slice (some (at_ b o)) l.length cap,cx]) (.ak (.own i.size s) (l++ys)) (Y.eB s (l.length+ys.length)):=by
 have hyl:0<ys.length:=uZ.2 hys;have hnl:0<news.length:=by rw[hs.len];exact Nat.mul_pos hyl hsz
 generalize hgl:l.length=ln at hx;cases hx with
 |gq _ a ha hc=>omega|ak _ _ _ _ n _ val hle hn hcell hrel hc=>
 obtain⟨hc1,hA,_,hc2⟩:=hc;obtain⟨c1,c2,c3⟩:=hc2 hT.symm;subst hc1;have hsum:(l.length+ys.length)*i.size=l.length*i.size+ys.length*i.size:=qK _ _ _;have aFm:=oI i.size hroom;have hlt:K.lo s<K.hi s:=by rw[c2,c3];have:=hs.len;omega
 obtain⟨o1,o2,o3⟩:=h.own s hA hlt;have QZ:∀j,j<news.length->(∃v,w.cell? (at_ b (o+l.length*i.size+j))=some v)/\w.frozen? (at_ b (o+l.length*i.size+j))=false:=by intro j hj;have:=o3 (o+l.length*i.size+j) RS (by have:=hs.len;omega);rw[c1] at this;exact this.2
 have hst:=run_storeCells_cells (P:=E.P) b (o+l.length*i.size) news 0 w (fun j hj=>by obtain⟨v,hv⟩:=(QZ j hj).1;rw[Nat.add_zero,hv];rfl) (fun j hj=>by rw[Nat.add_zero];exact(QZ j hj).2) hs.one;simp only[Nat.add_zero] at hst;have hrun:=run_append_room' (ty:=ty) (sLen:=l.length) (base:=some (at_ b o)) (w':=w.setCells b (o+l.length*i.size) news) ht hi hz hs h47 hb hroom (fun a ha=>by simp only[iE] at ha;subst ha;rw[addr_add];exact hst) (fun hn=>by cases hn);have hstep:=Step.EG (new:=new) h hB (s:=s) (n:=news.length) (T':=l.length+ys.length) (w':=w.setCells b (o+l.length*i.size) news) hA RS hnl (by rw[c2,c3,hs.len];omega) (by rw[c1];exact agF b news _ w)
  (fun q h1 h2=>by rw[c1];have:=World.cell?_setCells_in b news (o+l.length*i.size) w (fun j hj=>by obtain⟨v,hv⟩:=(QZ j hj).1;rw[hv];rfl) (q-(o+l.length*i.size)) RS;rw[show o+l.length*i.size+(q-(o+l.length*i.size))=q by omega] at this;exact⟨_,this⟩)
  (fun q hq=>by rw[c1];exact World.cell?_setCells_out b news _ w _ (fun _ _=>by show q<_\/_<=q;omega))
  (fun q=>World.frozen?_setCells b news _ w _)
 refine⟨_,_,_,hrun,?_,hstep⟩;have hll:(l++ys).length=l.length+ys.length:=fG;have key:Rel (K.EG s news.length) (Y.eB s (l.length+ys.length)).top (w.setCells b (o+l.length*i.size) news) (.ak (.own i.size s) (l++ys)) (.slice (some (at_ b o)) (l++ys).length cap):=by
  refine .ak _ _ b o i.size cap (fun p q=>if p<l.length then val p q else news.getD ((p-l.length)*i.size+q) undef) RS (fun p hp=>?_) (fun p q hp hq=>?_) (fun p q hp hq=>?_) ?_
  .by_cases h1:p<l.length
   .rw[uj h1];exact hn p h1
   .rw[um (Nat.not_lt.1 h1)];exact(ry _ RS).1
  .by_cases h1:p<l.length
   .obtain⟨g1,g2⟩:=hcell p q h1 hq;obtain⟨e1,e2⟩:=hstep.ext.I _ _ g2;simp only[h1,if_true];exact⟨e2.trans g1,e1⟩
   .have h2:p-l.length<ys.length:=RS;have hpq:=mul_lt h2 hq;have hm:p*i.size=(p-l.length)*i.size+l.length*i.size:=(by rw[<-qK];congr 1;omega);simp only[h1,if_false];refine⟨?_,.inr ⟨c1.symm,RS,by have:=hs.len;omega⟩⟩;have hlt':(p-l.length)*i.size+q<news.length:=(by rw[hs.len];exact hpq);have:=World.cell?_setCells_in b news (o+l.length*i.size) w (fun j hj=>by obtain⟨v,hv⟩:=(QZ j hj).1;rw[hv];rfl) ((p-l.length)*i.size+q) hlt';rw[kK hlt',<-this];congr 2;omega
  .by_cases h1:p<l.length
   .rw[uj h1];simp only[h1,if_true];exact(hrel p q h1 hq).ext hstep.ext
   .rw[um (Nat.not_lt.1 h1)];simp only[h1,if_false];exact((ry _ RS).2 q hq).ext hstep.ext
  .refine⟨rfl,hA,?_,fun _=>⟨c1,?_,?_⟩⟩
   .show _<=upd Y.top s _ s;rw[upd_same,hll];exact iR _
   .show upd K.lo s _ s=_;rw[upd_same,hll,c2,hs.len];omega
   .exact c3
 rw[hll] at key;exact key
end
section
variable {E:Env}{B0:Nat}{Y:ah}{K:bA}{w:World}{new:Nat->Prop}{T:Nat->Nat}
theorem G8 {c:Cap}{l:List V}{cx:Value}{sz:Nat}(hx:Rel K T w (.ak c l) cx)(hs:oK sz l=true)(hc:∀n s,c= .own n s->n=sz):(∃a,cx= .slice a 0 0/\(c= .nil->a=none)/\l=[]/\Lx K T c)\/∃(b o cap:Nat) (val:Nat->Nat->Value),cx= .slice (some (at_ b o)) l.length cap/\l.length<=cap/\(∀i,i<l.length->(l.getD i aP).cells.length=sz)/\ (∀i j,i<l.length->j<sz->w.cell? (at_ b (o+i*sz+j))=some (val i j)/\K.I b (o+i*sz+j))/\ (∀i j,i<l.length->j<sz->Rel K T w ((l.getD i aP).cells.getD j aP) (val i j))/\uf K T c sz b o l.length cap:=by
 cases hx with
 |gq _ a ha hcn=>exact .inl ⟨a,rfl,ha,rfl,hcn⟩|ak _ _ b o n cap val hle hn hcell hrel hcap=>
  right;by_cases h0:l=[]
  .subst h0;refine⟨b,o,cap,val,rfl,hle,fun i hi=>absurd hi (gQ i),fun i j hi=>absurd hi (gQ i),fun i j hi=>absurd hi (gQ i),?_⟩;cases c with
   |own n' s=>have h1:=hc n' s rfl;have h2:=hcap.1;have:n=sz:=RS;rw[<-this];exact hcap|sh=>trivial|full=>exact hcap|nil=>exact hcap
  .obtain rfl:=V5 hs hn (uZ.2 h0);exact⟨b,o,cap,val,rfl,hle,hn,hcell,hrel,hcap⟩
theorem apX {P:Program}{e:TypeId}{sz bs:Nat}{z:V}(h1:dM P e=some sz)(h2:u7 P e=some bs)(h3:jc P e=some z):∃i cz,P.info? e=some i/\i.size=sz/\i.bytes=bs/\i.zero=some cz/\ofValue cz=some z:=by unfold dM at h1;unfold u7 at h2;unfold jc at h3;simp only[aY,iP] at h1 h2 h3;obtain⟨i,hi,e1⟩:=h1;obtain⟨i',hi',e2⟩:=h2;obtain⟨cz,⟨aFo,Q0,e3⟩,e4⟩:=h3;rw[hi] at hi' Q0;cases hi';cases Q0;exact⟨i,cz,hi,e1,e2,e3,e4⟩
theorem G9 {sz n cap:Nat}{b o:Nat}{val:Nat->Nat->Value}(hcell:∀i j,i<n->j<sz->w.cell? (at_ b (o+i*sz+j))=some (val i j))(w':World)(hw:w'.heap=w.heap):(Builtin.firstCells sz n (.slice (some (at_ b o)) n cap)).run E.P w'= .ok ((List.range (n*sz)).map fun q=>val (q/sz) (q% sz)).toArray w':=by
 refine run_firstCells_some (P:=E.P) w' sz n (at_ b o) n cap _ aD (fun j v hj=>?_);have hjl:j<n*sz:=by have:=(uX.1 hj).1;simpa using this
 have hn0:0<sz:=by
  rcases Nat.eq_zero_or_pos sz with h|h
  .subst h;simp at hjl
  .exact h
 simp[hjl] at hj;subst hj;rw[addr_add];have:=hcell (j/sz) (j% sz) (Nat.div_lt_of_lt_mul (by rw[uY];exact hjl)) (Nat.mod_lt _ hn0);rw[cell_of_heap (w:=w) (by rw[hw])]
 rwa[oZ,uY,Nat.div_add_mod] at this
theorem Q5 {l:List V}{sz:Nat}{val:Nat->Nat->Value}(hn:∀i,i<l.length->(l.getD i aP).cells.length=sz)(hrel:∀i j,i<l.length->j<sz->Rel K T w ((l.getD i aP).cells.getD j aP) (val i j)):
 mq K T w sz l ((List.range (l.length*sz)).map fun q=>val (q/sz) (q% sz)):=
 fun i hi=>⟨hn i hi,fun j hj=>by rw[agy hi hj];exact hrel i j hi hj⟩
theorem Cj {t tx ty e:TypeId}{i:TypeInfo}{z cx:Value}{news:List Value}{n sLen sCap:Nat}{base:Option Addr}(ht:E.P.underlying t=some (.slice e))(hi:E.P.info? e=some i)(hz:i.zero=some z)(hs:zq E.P w i.size n tx z cx news)(hn:n=0)(hle:sLen<=sCap):(Builtin.append_ #[t,tx] ty #[.slice base sLen sCap,cx]).run E.P w= .ok (.slice base sLen sCap) w:=by
 subst hn;have h0:news=[]:=qo (by rw[hs.len];simp);subst h0;exact run_append_room' (w':=w) (base:=base) ht hi hz hs RS aD RS (fun a _=>rfl) (fun _=>rfl)
theorem apY (s n:Nat)(h:Y.top s=n):Y.eB s n=Y:=by
 unfold ah.eB;have:upd Y.top s n=Y.top:=by
  funext x;unfold upd;split
  .rename_i hx;rw[hx,h]
  .rfl
 rw[this]
theorem apZ (h:bH E B0 Y K w)(hB:B0<=w.heap.size){t tx ty e:TypeId}{i:TypeInfo}{z:Value}{st:Nat}{c:Cap}{l ys:List V}{cx cy:Value}{news:List Value}{v:V}{Y':ah}(ht:E.P.underlying t=some (.slice e))(hi:E.P.info? e=some i)(hz:i.zero=some z)(hzs:z.cells.size=i.size)(hsz:0<i.size)(hst:¬K.A st)(hx:Rel K Y.top w (.ak c l) cx)(hs:zq E.P w i.size ys.length tx z cy news)(ry:mq K Y.top w i.size ys news)(h47:l.length+ys.length<=2^47)(hb:(l.length+ys.length)*i.bytes<=2^47)(hhead:oK i.size l=true)(hv:(match c with
   |.own n s=>if n=i.size/\Y.top s=l.length then some (.ak (.own n s) (l++ys),Y.eB s (l.length+ys.length)) else none|.nil|.full=>some (.ak (.own i.size st) (l++ys),Y.eB st (l.length+ys.length))|.sh=>none)=some (v,Y')):
 Done E B0 (· =st) Y K w (Builtin.append_ #[t,tx] ty #[cx,cy]) v Y':=by
 have hb':ys.length*i.bytes<=2^47:=eZ (oI _ (Nat.le_add_left _ _)) hb;have imp:∀{s:Nat}{m:Sem Value}{v:V}{Y':ah},K.A s->Done E B0 (· =s) Y K w m v Y'->Done E B0 (· =st) Y K w m v Y':=by rintro s m v Y' hA ⟨a,b,c,d,e,f⟩;exact⟨a,b,c,d,e,f.imp fun x hx=>.inl (hx▸hA)⟩
 have fresh:∀cx,Rel K Y.top w (.ak .full l) cx\/(∃a,cx= .slice a 0 0/\l=[])->Done E B0 (· =st) Y K w (Builtin.append_ #[t,tx] ty #[cx,cy]) (.ak (.own i.size st) (l++ys)) (Y.eB st (l.length+ys.length)):=by
  intro cx hx;have hx':(∃a,cx= .slice a 0 0/\l=[])\/∃(b o:Nat) (val:Nat->Nat->Value),cx= .slice (some (at_ b o)) l.length l.length/\(∀p,p<l.length->(l.getD p aP).cells.length=i.size)/\
   (∀p j,p<l.length->j<i.size->w.cell? (at_ b (o+p*i.size+j))=some (val p j)/\K.I b (o+p*i.size+j))/\
   (∀p j,p<l.length->j<i.size->Rel K Y.top w ((l.getD p aP).cells.getD j aP) (val p j)):=by
   rcases hx with hx|hx
   .rcases G8 hx hhead (fun n s hh=>by cases hh) with ⟨a,h1,_,h2,_⟩| ⟨b,o,cap,val,h1,h2,h3,h4,h5,h6⟩
    .exact .inl ⟨a,h1,h2⟩
    .have h6:cap=l.length:=h6;subst h6;exact .inr ⟨b,o,val,h1,h3,h4,h5⟩
   .exact .inl hx
  rcases hx' with ⟨a,rfl,rfl⟩| ⟨b,o,val,rfl,h3,h4,h5⟩
  .by_cases hys:ys=[]
   .subst hys;have hrun:=Cj (ty:=ty) (base:=a) (sLen:=0) (sCap:=0) ht hi hz hs rfl (iR _);have hstep:=Step.agD h st 0 0 0 hst;refine⟨_,_,_,hrun,?_,hstep⟩;exact .gq _ a (fun h=>cZ) ⟨Or.inr rfl,fun _=>by simp only[upd_same]⟩
   .have hl:0<ys.length:=uZ.2 hys;have:=QY (ty:=ty) (base:=a) (olds:=[]) (l:=[]) (sLen:=0) (sCap:=0) h hB ht hi hz hzs rfl rfl hs (fun w' _=>LQ w' i.size a) aD (by simpa using h47) (by simpa using hb) RS (fun p hp=>absurd hp (gQ p)) ry (.inl hst);simpa using this
  .by_cases hys:ys=[]
   .subst hys;have hrun:=Cj (ty:=ty) (base:=some (at_ b o)) (sLen:=l.length) (sCap:=l.length) ht hi hz hs rfl (iR _);have hstep:=Step.agD h st (l.length+0) b (o+l.length*i.size) hst;refine⟨_,_,_,hrun,?_,hstep⟩;rw[jD];refine .ak _ _ b o i.size l.length val (iR _) h3 (fun p j hp hj=>h4 p j hp hj) (fun p j hp hj=>(h5 p j hp hj).ext hstep.ext) ⟨rfl,.inr rfl,?_,fun _=>⟨?_,?_,?_⟩⟩
    .show _<=upd Y.top st _ st;rw[upd_same];exact iR _
    .exact upd_same _ _ _
    .exact upd_same _ _ _
    .exact upd_same _ _ _
   .have hl:0<ys.length:=uZ.2 hys;exact QY (ty:=ty) (base:=some (at_ b o)) h hB ht hi hz hzs rfl rfl hs (fun w' hw=>G9 (fun p j hp hj=>(h4 p j hp hj).1) w' hw) aD h47 hb RS (Q5 h3 h5) ry (.inl hst)
 cases c with
 |sh=>simp at hv|nil=>
  simp only[iE,mF] at hv;obtain⟨rfl,rfl⟩:=hv;refine fresh cx (.inr ?_);cases hx with
  |gq _ a ha _=>exact⟨a,rfl,rfl⟩|ak _ _ _ _ _ _ _ _ _ _ _ hc=>exact hc.elim
 |full=>simp only[iE,mF] at hv;obtain⟨rfl,rfl⟩:=hv;exact fresh cx (.inl hx)
 |own n s=>
  simp only at hv;split at hv
  .rename_i hc;obtain⟨rfl,hT⟩:=hc;simp only[iE,mF] at hv;obtain⟨rfl,rfl⟩:=hv;by_cases hys:ys=[]
   .subst hys;have e1:Y.eB s (l.length+([]:List V).length)=Y:=apY s _ hT;rw[e1,jD];rcases G8 hx hhead (fun n s hh=>by cases hh;rfl) with ⟨a,rfl,_,rfl,_⟩| ⟨b,o,cap,val,rfl,h2,_⟩
    .exact⟨_,_,_,Cj (ty:=ty) (base:=a) (sLen:=0) (sCap:=0) ht hi hz hs rfl (iR _),hx,.refl h⟩
    .exact⟨_,_,_,Cj (ty:=ty) (base:=some (at_ b o)) ht hi hz hs rfl h2,hx,.refl h⟩
   .have hl:0<ys.length:=uZ.2 hys;rcases G8 hx hhead (fun n s hh=>by cases hh;rfl) with ⟨a,rfl,_,rfl,hcn⟩| ⟨b,o,cap,val,rfl,h2,h3,h4,h5,h6⟩
    .have:=QY (ty:=ty) (base:=a) (olds:=[]) (l:=[]) (sLen:=0) (sCap:=0) (s:=s) h hB ht hi hz hzs rfl rfl hs (fun w' _=>LQ w' i.size a) aD (by simpa using h47) (by simpa using hb) RS (fun p hp=>absurd hp (gQ p)) ry (.inr (by simp at hT;omega));simpa using imp hcn.1 this
    .by_cases hr:l.length+ys.length<=cap
     .exact apW (ty:=ty) h hB ht hi hz hsz hys hx hhead hs RS hb' hr ry hT
     .exact imp h6.2.1 (QY (ty:=ty) (base:=some (at_ b o)) (s:=s) h hB ht hi hz hzs rfl rfl hs (fun w' hw=>G9 (fun p j hp hj=>(h4 p j hp hj).1) w' hw) aD h47 hb RS (Q5 h3 h5) ry (.inr RS))
  .simp at hv
end
section
variable {E:Env}{B0:Nat}{Y:ah}{K:bA}{w:World}{new:Nat->Prop}{T:Nat->Nat}
theorem Step.ko (h:bH E B0 Y K w)(loc:Loc):Step E B0 new Y K w (Y.ko loc) K w:=by
 refine⟨⟨fun loc' s ob hs=>?_,h.own,h.I,h.IM,h.loop,h.glob,h.rb,h.D⟩,.refl _ _ _,.refl _ _,fun _ h=>h,fun _ h=>.inl h,fun _ _ h=>.inl h,fun _ h=>.inl h⟩;by_cases hl:loc'=loc
 .subst hl;simp[ah.ko,upd_same] at hs
 .simp only[ah.ko,upd_ne _ _ hl] at hs;exact h.obj loc' s ob hs
theorem Step.ap0 (h:bH E B0 Y K w)(loc:Loc){st:Nat}(hst:¬K.A st):
 Step E B0 (· =st) Y K w (Y.setObj loc st (.cells [])) {K with A:=fun x=>K.A x\/x=st,sz:=upd K.sz st 0,lo:=upd K.lo st 0,hi:=upd K.hi st 0} w:=by
 have hne:∀x,K.A x->x≠st:=fun x hx e=>hst (e▸hx);have e:Ext K Y.top w {K with A:=fun x=>K.A x\/x=st,sz:=upd K.sz st 0,lo:=upd K.lo st 0,hi:=upd K.hi st 0} Y.top w:=
  ⟨fun x hx=>⟨.inl hx,rfl,rfl,upd_ne _ _ (hne x hx)⟩,fun x hx=>.inl ⟨rfl,rfl,upd_ne _ _ (hne x hx),upd_ne _ _ (hne x hx)⟩,fun b i hi=>⟨hi,rfl⟩,fun b hb=>⟨hb,rfl⟩⟩
 refine⟨?_,e,.refl _ _,fun b hb=>hb,fun _ h=>h,fun b o hi=>.inl hi,fun _ h=>.inl h⟩;refine⟨fun loc' x ob hx=>?_,fun x hx hlt=>?_,h.I,h.IM,fun l r hl=>?_,fun g cs hg=>(h.glob g cs hg).ext e,h.rb,h.D⟩
 .by_cases hl:loc'=loc
  .subst hl;simp only[ah.setObj,upd_same,iE,mF] at hx;obtain⟨rfl,rfl⟩:=hx;exact⟨.inr rfl,⟨fun _=>upd_same _ _ _,fun hn=>absurd rfl hn⟩,fun hr=>hr.elim⟩
  .simp only[ah.setObj,upd_ne _ _ hl] at hx;obtain⟨a1,a2,a3⟩:=h.obj loc' x ob hx;exact⟨.inl a1,a2.ext e a1 (fun _=>rfl),a3⟩
 .by_cases hxs:x=st
  .subst hxs;simp only[upd_same] at hlt;omega
  .simp only[upd_ne _ _ hxs] at hlt;have:=h.own x (hx.resolve_right hxs) hlt;exact⟨this.1,this.2.1,fun o p q=>this.2.2 o (by simpa only[upd_ne _ _ hxs] using p) (by simpa only[upd_ne _ _ hxs] using q)⟩
 .obtain⟨a1,a2⟩:=h.loop l r hl;exact⟨.inl a1,a2.ext e a1 rfl rfl⟩
def wN (K:bA)(T:Nat->Nat)(w:World)(fl:List V)(cells:List Value):Prop:=fl.length=cells.length/\∀q,q<fl.length->Rel K T w (fl.getD q aP) (cells.getD q undef)
theorem wN.ext {K' T' w'}{fl:List V}{cells:List Value}(h:wN K T w fl cells)(e:Ext K T w K' T' w'):wN K' T' w' fl cells:=⟨h.1,fun q hq=>(h.2 q hq).ext e⟩
theorem wN.append {a b:List V}{x y:List Value}(h:wN K T w a x)(g:wN K T w b y):wN K T w (a++b) (x++y):=by
 refine⟨by simp[h.1,g.1],fun q hq=>?_⟩;by_cases h1:q<a.length
 .rw[uj h1,uj (by have:=h.1;omega)];exact h.2 q h1
 .rw[um RS,um (by have:=h.1;omega),<-h.1];exact g.2 _ (by simp at hq;omega)
theorem LU {sz:Nat}:∀{l:List V}{cells:List Value},mq K T w sz l cells->cells.length=l.length*sz->wN K T w (l.flatMap V.cells) cells
 | [],cells,_,hl=>by have:cells=[]:=qo BO;subst this;exact⟨rfl,fun q hq=>absurd hq (gQ q)⟩
 |v::l,cells,h,hl=>by
  have hs:(l.length+1)*sz=l.length*sz+sz:=sI _ _;rw[List.length_cons,hs] at hl;obtain⟨h1,h2⟩:=h 0 aD;have h1:v.cells.length=sz:=h1;have e:cells=cells.take sz++cells.drop sz:=(Em _ _).symm;rw[e,kT];refine wN.append ⟨by simp[h1];omega,fun q hq=>?_⟩ (LU (sz:=sz) (fun i hi=>?_) dw)
  .have:=h2 q RS;rw[rR _ RS];simpa using this
  .obtain⟨g1,g2⟩:=h (i+1) dw;refine⟨by simpa using g1,fun j hj=>?_⟩;have:=g2 j hj;rw[uh];have e2:sz+(i*sz+j)=(i+1)*sz+j:=by rw[sI];omega
   rw[e2];simpa using this
theorem Wo (h:bH E B0 Y K w)(hB:B0<=w.heap.size){t tx ty e:TypeId}{i:TypeInfo}{z:Value}{n sLen sCap st:Nat}{loc:Loc}{ag:Bool}{cx:Value}{olds news:List Value}{base:Option Addr}{fl:List V}(ht:E.P.underlying t=some (.slice e))(hi:E.P.info? e=some i)(hz:i.zero=some z)(hzs:z.cells.size=i.size)(hsz:0<i.size)(hs:zq E.P w i.size n tx z cx news)(hold:∀w',w'.heap=w.heap->(Builtin.firstCells i.size sLen (.slice base sLen sCap)).run E.P w'= .ok olds.toArray w')(hol:olds.length=sLen*i.size)(h47:sLen+n<=2^47)(hb:(sLen+n)*i.bytes<=2^47)(hroom:sCap<sLen+n)(rf:wN K Y.top w fl (olds++news))(hst:¬K.A st):
 Done E B0 (· =st) Y K w (Builtin.append_ #[t,tx] ty #[.slice base sLen sCap,cx]) (.aS loc st 0 (sLen+n) (sLen+n) i.size ag) (Y.setObj loc st (.cells fl)):=by
 have hrun:=run_append_grow' (ty:=ty) ht hi hz hs hold h47 hb hroom;have hge:=grownCap_ge w (sLen+n) sCap e;generalize grownCap w (sLen+n) sCap e=nc at hrun hge;have hlen:(olds++news).length=(sLen+n)*i.size:=by rw[fG,hol,hs.len,qK]
 have hvs:((olds++news).toArray++Builtin.zeroCells z.cells (nc-(sLen+n))).size=nc*i.size:=by
  rw[Array.size_append];have:(olds++news).toArray.size=(sLen+n)*i.size:=by simpa using hlen
  rw[this];simp only[Builtin.zeroCells,Array.size_map,Array.size_range,hzs];rw[<-qK];congr 1;omega
 have hfl:fl.length=(sLen+n)*i.size:=by rw[rf.1,hlen]
 have hpos:0< (sLen+n)*i.size:=Nat.mul_pos RS hsz;have hle:(sLen+n)*i.size<=nc*i.size:=oI _ hge;have hstep:=(Step.draw (new:=(· =st)) h).trans (Step.QS (w:=w.drew) h.drew hB hst loc (.cells fl) (.cells ((olds++news).toArray++Builtin.zeroCells z.cells (nc-(sLen+n))) e) (nc*i.size) (fun K' e' _ hb' hs'=>by refine⟨fun h0=>by rw[h0] at hfl;simp at hfl;omega,fun _=>⟨QJ,_,e,by rw[hb'];exact heap_alloc_new w.drew _,by rw[hs',hvs],by rw[hfl,hvs];exact hle,fun q hq=>?_⟩⟩;rw[agE RS];have e0:Ext K Y.top w K Y.top w.drew:=(Step.draw (new:=fun _=>False) h).ext;exact(rf.2 q hq).ext (e0.trans e')));refine⟨_,_,_,hrun,?_,hstep⟩;have key:Rel (K.nR st w.drew.heap.size (nc*i.size) loc) (Y.setObj loc st (.cells fl)).top (w.drew.alloc (.cells ((olds++news).toArray++Builtin.zeroCells z.cells (nc-(sLen+n))) e)) (.aS loc st 0 (sLen+n) (sLen+n) i.size ag)
  (.slice (some (at_ ((K.nR st w.drew.heap.size (nc*i.size) loc).blk st) 0)) (sLen+n) nc):=
  .aS loc st 0 _ _ i.size ag nc (.inr rfl) hge (iR _) (by show 0+_<=upd K.sz st _ st;rw[upd_same];omega)
 have hblk:(K.nR st w.drew.heap.size (nc*i.size) loc).blk st=w.heap.size:=upd_same _ _ _;rw[hblk] at key;exact key
theorem agG {b:Nat}{vals:Array Value}{t:TypeId}{off:Nat}{news:List Value}(g1:w.heap[b]? =some (.cells vals t (0,0)))(hle:off+news.length<=vals.size)(hone:∀u∈news,u.oneCell'=true):
 ∃w' vals',(storeCells (at_ b off) news).run E.P w= .ok () w'/\Only b w w'/\w'.heap[b]? =some (.cells vals' t (0,0))/\vals'.size=vals.size/\
  ∀i,i<vals.size->vals'.getD i undef=if off<=i/\i<off+news.length then news.getD (i-off) undef else vals.getD i undef:=by
 have hrun:=run_storeCells_at E.P b off t news 0 vals w g1 RS hone;refine⟨_,_,hrun,?_,setRow_heap w b vals _ t (0,0) g1,dw,fun i LM=>?_⟩
 .refine⟨rfl,rfl,rfl,by simp[World.setRow],fun k hk _=>?_⟩;simp[World.setRow,Array.getElem?_modify,Ne.symm hk]
 .have hl:(vals.toList.take (off+0)).length=off:=dw
  have harr:∀(l:List Value),l.toArray.getD i undef=l.getD i undef:=fun l=>by simp[Array.getD,List.getD];split<;>simp_all
  rw[harr,fP];by_cases h1:i<off
  .rw[uj RS,rR _ RS,if_neg RS];simp[List.getD,Array.getD,LM]
  .rw[um RS,hl];by_cases h2:i-off<news.length
   .rw[uj h2,if_pos RS]
   .rw[um RS,uh,if_neg RS];have:off+0+news.length+(i-off-news.length)=i:=RS;rw[this];simp[List.getD,Array.getD,LM]
theorem Wp {loc:Loc}{s:Nat}{ob:kH}(ho:Y.obj loc=some (s,ob)):Y.setObj loc s ob=Y:=by
 unfold ah.setObj;have:upd Y.obj loc (some (s,ob))=Y.obj:=by
  funext l;unfold upd;split
  .rename_i hl;rw[hl,ho]
  .rfl
 rw[this]
theorem agH (h:bH E B0 Y K w)(hB:B0<=w.heap.size){loc:Loc}{s off:Nat}{cs fl:List V}{news:List Value}(hcs:Y.dQ loc s=some cs)(rf:wN K Y.top w fl news)(hle:off+fl.length<=cs.length)(hone:∀u∈news,u.oneCell'=true):
 ∃w',(storeCells (at_ (K.blk s) off) news).run E.P w= .ok () w'/\Step E B0 new Y K w (Y.setObj loc s (.cells (gM cs off fl))) K w':=by
 obtain⟨ho,_,_⟩:=h.wL hcs;obtain⟨_,nS,_⟩:=h.obj _ _ _ ho;by_cases hne:cs=[]
 .subst hne;have h0:fl=[]:=by cases fl with|nil=>rfl|cons a b=>simp at hle
  subst h0;have h0':news=[]:=qo (by rw[<-rf.1];rfl);subst h0';have hsp:gM [] off []=([]:List V):=by simp[gM]
  rw[hsp,Wp ho];exact⟨w,rfl,.refl h⟩
 .obtain⟨hb0,vals,t',g1,g2,g3,g4⟩:=nS.2 hne;obtain⟨w',vals',r1,r2,r3,r4,r5⟩:=agG (E:=E) (off:=off) (news:=news) g1 (by have:=rf.1;omega) hone;refine⟨w',r1,Step.setCells h hB ho hne g1 r2 r3 r4 (by intro h0;have:=Ch hle;rw[h0] at this;exact hne (qo this.symm)) (by rw[Ch hle,r4];exact g3) (fun e i hi=>?_)⟩;rw[Ch hle] at hi;have hiv:i<vals.size:=nD hi g3;rw[Wd hle,r5 i hiv,<-rf.1];by_cases hh:off<=i/\i<off+fl.length
  .rw[if_pos hh,if_pos hh];exact(rf.2 _ RS).ext e
  .rw[if_neg hh,if_neg hh];exact(g4 i hi).ext e
end
section
variable {E:Env}{B0:Nat}{Y:ah}{K:bA}{w:World}{new:Nat->Prop}{T:Nat->Nat}
theorem agI {n b:Nat}(h:bZ n b=true):n<=2^47/\n*b<=2^47:=by simp only[bZ,aZ,decide_eq_true_eq] at h;exact⟨h.2,h.1⟩
theorem ap1 {sz:Nat}{ys:List V}{news:List Value}(h:mq K T w sz ys news):(ys.flatMap V.cells).length=ys.length*sz:=by
 have:∀v∈ys,v.cells.length=sz:=fun v hv=>by
  obtain⟨i,hi,rfl⟩:=GH.1 hv;have:=(h i hi).1
  rwa[kK hi] at this
 clear h;induction ys with
 |nil=>simp|cons a l ih=>rw[kT,fG,ih (fun v hv=>this v sH),this a aD,List.length_cons,sI];omega
theorem agJ (h:bH E B0 Y K w){loc:Loc}{s:Nat}{cs:List V}(hcs:Y.dQ loc s=some cs){n:Nat}(hn:n<=cs.length):
 ∃vals:Nat->Value,wN K Y.top w (cs.take n) ((List.range n).map vals)/\∀j,j<n->w.cell? (at_ (K.blk s) j)=some (vals j):=by
 obtain⟨ho,_,_⟩:=h.wL hcs;obtain⟨_,nS,_⟩:=h.obj _ _ _ ho;by_cases hne:cs=[]
 .subst hne;have:n=0:=by simpa using hn
  subst this;exact⟨fun _=>undef,⟨rfl,fun q hq=>absurd hq (gQ q)⟩,fun j hj=>absurd hj (gQ j)⟩
 .obtain⟨hb0,vals,t',g1,g2,g3,g4⟩:=nS.2 hne;refine⟨fun j=>vals.getD j undef,⟨dw,fun q hq=>?_⟩,fun j hj=>?_⟩
  .have hq':q<n:=by simp at hq;omega
   rw[rR _ hq'];have:((List.range n).map fun j=>vals.getD j undef).getD q undef=vals.getD q undef:=by simp[List.getD,hq']
   rw[this];exact g4 q RS
  .have:j<vals.size:=RS
   simp[World.cell?,g1,this]
theorem ap2 (h:bH E B0 Y K w)(hB:B0<=w.heap.size){t tx ty e:TypeId}{i:TypeInfo}{z:Value}{st s len cap:Nat}{kJ loc:Loc}{ag Ci:Bool}{ys cs:List V}{cx cy:Value}{news:List Value}{v:V}{Y':ah}(ht:E.P.underlying t=some (.slice e))(hi:E.P.info? e=some i)(hz:i.zero=some z)(hzs:z.cells.size=i.size)(hsz:0<i.size)(hst:¬K.A st)(hx:Rel K Y.top w (.aS kJ s 0 len cap i.size Ci) cx)(hs:zq E.P w i.size ys.length tx z cy news)(ry:mq K Y.top w i.size ys news)(h47:len+ys.length<=2^47)(hb:(len+ys.length)*i.bytes<=2^47)(hcs:Y.dQ kJ s=some cs)(hv:(if len+ys.length<=cap then if (len+ys.length)*i.size<=cs.length then some (V.aS kJ s 0 (len+ys.length) cap i.size ag,Y.setObj kJ s (.cells (gM cs (len*i.size) (ys.flatMap V.cells))))else none else if len*i.size<=cs.length then some (.aS loc st 0 (len+ys.length) (len+ys.length) i.size ag,(Y.ko kJ).setObj loc st (.cells (cs.take (len*i.size)++ys.flatMap V.cells)))else none)=some (v,Y')):
 Done E B0 (· =st) Y K w (Builtin.append_ #[t,tx] ty #[cx,cy]) v Y':=by
 have hb':ys.length*i.bytes<=2^47:=eZ (oI _ (Nat.le_add_left _ _)) hb;have hfl:=ap1 ry;have LV:=LU ry hs.len;have hsum:(len+ys.length)*i.size=len*i.size+ys.length*i.size:=qK _ _ _;obtain⟨ho,hA,hks⟩:=h.wL hcs;split at hv
 .rename_i hcap;split at hv
  .rename_i hle;simp only[iE,mF] at hv;obtain⟨rfl,rfl⟩:=hv;cases hx with
   |oL=>have hys:ys=[]:=qo RS;subst hys;have e1:gM cs (0*i.size) ([].flatMap V.cells)=cs:=(by simp[gM]);rw[e1,Wp ho];exact⟨_,_,_,Cj (ty:=ty) (base:=none) (sLen:=0) (sCap:=0) ht hi hz hs rfl (iR _),.oL kJ s i.size ag hA,.refl h⟩|aS _ _ _ _ _ _ _ fB hA' hcc hlc Wq=>obtain⟨w',r1,r2⟩:=agH (new:=(· =st)) h hB hcs LV (off:=len*i.size) (by rw[hfl];omega) hs.one;have hrun:=run_append_room' (ty:=ty) (sLen:=len) (sCap:=fB) (base:=some (at_ (K.blk s) 0)) (w':=w') ht hi hz hs RS hb' RS (fun a ha=>by simp only[iE] at ha;subst ha;rw[addr_add,o7];exact r1) (fun hn=>by cases hn);exact⟨_,_,_,hrun,.aS kJ s 0 _ cap i.size ag fB hA hcc hcap Wq,r2⟩
  .simp at hv
 .rename_i hcap;split at hv
  .rename_i hle;simp only[iE,mF] at hv;obtain⟨rfl,rfl⟩:=hv;have grow:∀base fB,(∀w',w'.heap=w.heap->∀vals:Nat->Value,(∀j,j<len*i.size->w.cell? (at_ (K.blk s) j)=some (vals j))->(Builtin.firstCells i.size len (.slice base len fB)).run E.P w'= .ok ((List.range (len*i.size)).map vals).toArray w')->fB<len+ys.length->
    Done E B0 (· =st) Y K w (Builtin.append_ #[t,tx] ty #[.slice base len fB,cy]) (.aS loc st 0 (len+ys.length) (len+ys.length) i.size ag) ((Y.ko kJ).setObj loc st (.cells (cs.take (len*i.size)++ys.flatMap V.cells))):=by
    intro base fB hold hroom;obtain⟨vals,g1,g2⟩:=agJ h hcs hle;have hd:=Step.ko (new:=(· =st)) h kJ;obtain⟨a,b,c,d1,d2,d3⟩:=Wo (ty:=ty) (ag:=ag) (loc:=loc) (base:=base) (sLen:=len) (sCap:=fB) (Y:=Y.ko kJ) (olds:=(List.range (len*i.size)).map vals) hd.ok hB ht hi hz hzs hsz hs (fun w' hw=>hold w' hw vals g2) aD h47 hb hroom ((g1.append LV).ext hd.ext) hst;exact⟨a,b,c,d1,d2,hd.trans d3⟩
   cases hx with
   |oL=>exact grow none 0 (fun w' _ vals _=>by simp[Builtin.firstCells]) RS
   |aS _ _ _ _ _ _ _ fB hA' hcc hlc Wq=>
    by_cases hr:len+ys.length<=fB
    .have hmc:=oI i.size hr;have hpos:0< (len+ys.length)*i.size:=Nat.mul_pos RS hsz;obtain⟨_,nS,_⟩:=h.obj _ _ _ ho;have hne:cs≠[]:=(by rintro rfl;have:=nS.1 rfl;omega);obtain⟨hb0,vals,t',g1,g2,g3,g4⟩:=nS.2 hne;obtain⟨w',vals',r1,r2,r3,r4,r5⟩:=agG (E:=E) (off:=len*i.size) (news:=news) g1 (by have:=LV.1;omega) hs.one;have hrun:=run_append_room' (ty:=ty) (sLen:=len) (sCap:=fB) (base:=some (at_ (K.blk s) 0)) (w':=w') ht hi hz hs RS hb' hr (fun a ha=>by simp only[iE] at ha;subst ha;rw[addr_add,o7];exact r1) (fun hn=>by cases hn);have hcl:(cs.take (len*i.size)++ys.flatMap V.cells).length=(len+ys.length)*i.size:=(by simp only[fG,mO,hfl];omega);have hstep:=Step.apq (loc:=loc) (cs:=cs.take (len*i.size)++ys.flatMap V.cells) h hB hst ho hne g1 r2 r3 (by intro h0;rw[h0] at hcl;simp at hcl;omega) RS (fun K' e' q hq=>by
      have ap3:q<vals.size:=RS;have hrf:=LV.1;have hlt:(cs.take (len*i.size)).length=len*i.size:=(by simp only[mO];omega);rw[r5 q ap3];by_cases h1:q<len*i.size
      .rw[uj RS,rR _ h1,if_neg RS];exact(g4 q RS).ext e'
      .rw[um RS,hlt,if_pos RS];exact(LV.2 _ RS).ext e')
     refine⟨_,_,_,hrun,?_,hstep⟩;have key:Rel (K.nR st (K.blk s) vals'.size loc) ((Y.ko kJ).setObj loc st (.cells (cs.take (len*i.size)++ys.flatMap V.cells))).top w' (.aS loc st 0 (len+ys.length) (len+ys.length) i.size ag)
      (.slice (some (at_ ((K.nR st (K.blk s) vals'.size loc).blk st) 0)) (len+ys.length) fB):=
      .aS loc st 0 _ _ i.size ag fB (.inr rfl) hr (iR _) (by show 0+_<=upd K.sz st _ st;rw[upd_same];omega)
     have hblk:(K.nR st (K.blk s) vals'.size loc).blk st=K.blk s:=upd_same _ _ _;rw[hblk] at key;exact key
    .exact grow (some (at_ (K.blk s) 0)) fB (fun w' hw vals ap4=>by have:=G9 (E:=E) (w:=w) (sz:=i.size) (n:=len) (cap:=fB) (b:=K.blk s) (o:=0) (val:=fun p q=>vals (p*i.size+q)) (fun p q hp hq=>by rw[o7];exact ap4 _ (mul_lt hp hq)) w' hw;rw[this];congr 3;funext q;show vals (q/i.size*i.size+q% i.size)=vals q;rw[uY,Nat.div_add_mod]) RS
  .simp at hv
theorem Ws (h:bH E B0 Y K w)(hB:B0<=w.heap.size){aj zeros:Bool}{st:Nat}{loc:Option Loc}{t tx ty:TypeId}{x y v:V}{cx cy:Value}{Y':ah}(hst:¬K.A st)(hx:Rel K Y.top w x cx)(hy:Rel K Y.top w y cy)(hk:zeros=true->∃k,E.P.underlying tx=some (.int k))(hk':zeros=false->(∃e',E.P.underlying tx=some (.slice e'))\/E.P.underlying tx=some .string)(hv:kI E.P aj zeros Y st loc t x y=some (v,Y')):Done E B0 (· =st) Y K w (Builtin.append_ #[t,tx] ty #[cx,cy]) v Y':=by
 simp only[kI,iP] at hv;obtain⟨e,he,sz,hsz,gI,hby,ag,hag,z,hz,hv⟩:=hv;split at hv
 .rename_i hc;obtain⟨c1,c2,c3,c4⟩:=hc;simp only[iP] at hv;obtain⟨ys,hys,hv⟩:=hv;split at hv
  .rename_i hone;have hu:=LH he;obtain⟨i,cz,hi,rfl,rfl,hiz,hzv⟩:=apX hsz hby hz;have hraw:fE z=true:=LG hz;obtain⟨aFp,_,hz2⟩:=EH w hz;have hrz:Rel K Y.top w z cz:=VR hzv;have hzs:cz.cells.size=i.size:=by rw[<-(Cg hrz hraw).1,c2]
   obtain⟨news,hs,ry⟩:=apT (e:=e) h hy hrz hraw c2 c4 hk hk' c1 hys hone rfl;cases x with
   |ak c l=>
    simp only at hv;split at hv
    .rename_i hr;obtain⟨hr,hhead⟩:=hr;obtain⟨h47,hb⟩:=agI hr;have agK:∀loc,(c= .nil\/(c= .full/\ys≠[]))->Done E B0 (· =st) Y K w (Builtin.append_ #[t,tx] ty #[cx,cy]) (.aS loc st 0 (l.length+ys.length) (l.length+ys.length) i.size ag) (Y.setObj loc st (.cells ((l++ys).flatMap V.cells))):=by
      intro loc hcc;have ap5:=LU ry hs.len;rcases G8 hx hhead (fun n s hh=>by rcases hcc with rfl| ⟨rfl,_⟩<;>cases hh) with ⟨a0,rfl,ha0,rfl,_⟩| ⟨b,o,cap,val,rfl,h2,h3,h4,h5,h6⟩
      .by_cases hy0:ys=[]
       .subst hy0;have ha:a0=none:=by
         rcases hcc with h1| ⟨_,h1⟩
         .exact ha0 h1
         .exact absurd rfl h1
        subst ha;exact⟨_,_,_,Cj (ty:=ty) (base:=none) (sLen:=0) (sCap:=0) hu hi hiz hs rfl (iR _),.oL loc st i.size ag (Or.inr rfl),Step.ap0 h loc hst⟩
       .have hl:0<ys.length:=uZ.2 hy0;have:=Wo (ty:=ty) (ag:=ag) (loc:=loc) (base:=a0) (olds:=[]) (sLen:=0) (sCap:=0) (fl:=ys.flatMap V.cells) h hB hu hi hiz hzs c3 hs (fun w' _=>LQ w' i.size a0) aD (by simpa using h47) (by simpa using hb) RS (by simpa using ap5) hst;simpa using this
      .rcases hcc with rfl| ⟨rfl,hy0⟩
       .exact h6.elim
       .have hcap:cap=l.length:=h6;subst hcap;have hl:0<ys.length:=uZ.2 hy0;have rc:=agC (Q5 h3 h5) ry aD;exact Wo (ty:=ty) (ag:=ag) (loc:=loc) (base:=some (at_ b o)) h hB hu hi hiz hzs c3 hs (fun w' hw=>G9 (fun p j hp hj=>(h4 p j hp hj).1) w' hw) aD h47 hb RS (LU rc (by rw[fG,hs.len,fG,qK];simp)) hst
     cases aj with
     |true=>
      cases c with
      |nil=>simp only[aY,mF] at hv;obtain⟨loc,_,rfl,rfl⟩:=hv;exact agK loc (.inl rfl)
      |full=>
       simp only at hv;split at hv
       .rename_i hy0;simp only[iE,mF] at hv;obtain⟨rfl,rfl⟩:=hv;have hn:ys.length=0:=(by simpa using hy0);rcases G8 hx hhead (fun n s hh=>by cases hh) with ⟨a0,rfl,_,rfl,_⟩| ⟨b,o,cap,val,rfl,h2,h3,h4,h5,h6⟩
        .exact⟨_,_,_,Cj (ty:=ty) (base:=a0) (sLen:=0) (sCap:=0) hu hi hiz hs hn (iR _),hx,Step.refl h⟩
        .exact⟨_,_,_,Cj (ty:=ty) (base:=some (at_ b o)) hu hi hiz hs hn RS,hx,Step.refl h⟩
       .rename_i hy0;simp only[aY,mF] at hv;obtain⟨loc,_,rfl,rfl⟩:=hv;exact agK loc (.inr ⟨rfl,fun h0=>hy0 (by rw[h0];rfl)⟩)
      |own n s=>simp at hv|sh=>simp at hv
     |false=>refine apZ (ty:=ty) h hB hu hi hiz hzs c3 hst hx hs ry h47 hb hhead ?_;rw[<-hv];cases c<;>rfl
    .simp at hv
   |aS kJ s off len cap bF Ci=>
    simp only at hv;split at hv
    .rename_i hr;obtain⟨hr,_,rfl,rfl⟩:=hr;obtain⟨h47,hb⟩:=agI hr;simp only[iP] at hv;obtain⟨loc,_,cs,hcs,hv⟩:=hv;exact ap2 (ty:=ty) h hB hu hi hiz hzs c3 hst hx hs ry h47 hb hcs hv
    .simp at hv
   |_=>simp at hv
  .simp at hv
 .simp at hv
end
section
variable {E:Env}{B0:Nat}{Y:ah}{K:bA}{w:World}{new:Nat->Prop}{T:Nat->Nat}
theorem ap6 (h:bH E B0 Y K w)(hB:B0<=w.heap.size){aj:Bool}{st:Nat}{loc:Option Loc}{t:TypeId}{l c v:V}{cl cc:Value}{Y':ah}(hst:¬K.A st)(hl:Rel K Y.top w l cl)(hc:Rel K Y.top w c cc)(hv:Av E.P aj Y st loc t l c=some (v,Y')):Done E B0 (· =st) Y K w (Instr.makeSlice t cl cc) v Y':=by
 unfold Av at hv;cases hv
theorem ap7 (h:bH E B0 Y K w)(hB:B0<=w.heap.size){st:Nat}{loc:Option Loc}{t:TypeId}{len:Nat}{parts:List (Nat×V)}{parts':Array (Nat×Value)}{v:V}{Y':ah}(hst:¬K.A st)(hp:G6 K Y.top w parts parts'.toList)(hv:Cc E Y st loc t len parts=some (v,Y')):Done E B0 (· =st) Y K w (Instr.buildSlice t len parts') v Y':=by
 simp only[Cc,iP] at hv;obtain⟨e,he,sz,hsz,ag,hag,z,hz,hv⟩:=hv;split at hv
 .rename_i hc;obtain⟨c1,c2,c3⟩:=hc;simp only[iP,aY,mF] at hv;obtain⟨cs,hcs,loc,_,rfl,rfl⟩:=hv;obtain⟨cz,hz1,hz2⟩:=EH w hz;have hraw:fE z=true:=LG hz;have hrz:=Wi (hz2 K Y.top) hraw c2 len;obtain⟨vs',g1,g2,g3⟩:=LP (K:=K) (T:=Y.top) (w:=w) (place':=fun i=>some (i*sz,sz)) (fun i x hx=>by
   split at hx
   .exact hx
   .simp at hx) parts parts'.toList _ _ _ hp hrz hcs
  have hlen:cs.length=len*sz:=by rw[g2.1,g3];simp
  have hu:=LH he;have hrun:(Instr.buildSlice t len parts').run E.P w= .ok (.slice (some ⟨w.heap.size,0,none⟩) len len) (w.alloc (.cells vs' e)):=by
   have hn:¬2^24<len*sz:=RS
   by_cases h0:len*sz=0
   .have hl0:len=0:=by
     rcases Nat.mul_eq_zero.1 h0 with h|h
     .exact h
     .omega
    subst hl0;simp only[Instr.buildSlice,Sem.run_bind,run_underlying hu,Result.andThen_ok,mo w hsz,Nat.zero_mul];have g1':Instr.fill (fun i=>some (i*sz,sz)) #[] parts'.toList=some vs':=(by have e0:((Array.range (0*sz)).map fun i=>cz.cells[i% cz.cells.size]!)= #[]:=Qy;rw[<-e0];exact g1);have e1:∀f:Nat->Value,(Array.range 0).map f= #[]:=fun f=>Qy
    simp only[if_true,e1,g1'];simp[newRow]
   .simp only[Instr.buildSlice,Sem.run_bind,run_underlying hu,Result.andThen_ok,mo w hsz,hn,gt_iff_lt,if_false,h0,hz1,Sem.run_pure];rw[g1];simp[newRow]
  have hms:vs'.size=len*sz:=by rw[<-g2.1,hlen]
  have hstep:=Step.QS h hB hst loc (.cells cs) (.cells vs' e) (len*sz) (fun K' e' _ hb' hs'=>by refine⟨fun h0=>by rw[h0] at hlen;rw[hs',<-hlen];rfl,fun _=>⟨QJ,_,e,by rw[hb'];exact heap_alloc_new w _,by rw[hs',hms],by rw[hlen,hms];exact iR _,fun q hq=>?_⟩⟩;exact(g2.2 q hq).ext e');refine⟨_,_,_,hrun,?_,hstep⟩;have key:Rel (K.nR st w.heap.size (len*sz) loc) (Y.setObj loc st (.cells cs)).top (w.alloc (.cells vs' e)) (.aS loc st 0 len len sz ag)
   (.slice (some (at_ ((K.nR st w.heap.size (len*sz) loc).blk st) 0)) len len):=
   .aS loc st 0 _ _ sz ag _ (Or.inr rfl) (iR _) (iR _) (by show 0+_<=upd K.sz st _ st;rw[upd_same];omega)
  have hblk:(K.nR st w.heap.size (len*sz) loc).blk st=w.heap.size:=upd_same _ _ _;rw[hblk] at key;exact key
 .simp at hv
theorem ap8 (h:bH E B0 Y K w){ag:Bool}{sz:Nat}{z y:V}{cy:Value}{ys:List V}(hy:Rel K Y.top w y cy)(hag:(ag||sz==1)=true)(hi:zk y=false)(hv:nQ Y ag sz z y=some ys):
 ∃cells,cells.length=ys.length*sz/\mq K Y.top w sz ys cells/\(∀w',(Builtin.lenOf cy).run E.P w'= .ok ys.length w')/\
  ∀n,n<=ys.length->(Builtin.firstCells sz n cy).run E.P w= .ok (cells.take (n*sz)).toArray w:=by
 have hrange:∀(f:Nat->Value)(a b:Nat),a<=b->((List.range b).map f).take a=(List.range a).map f:=by intro f a b hab;rw[<-List.map_take,List.take_range,Am hab]
 cases y with
 |int=>simp[zk] at hi|ak c l=>
  simp only[nQ] at hv;split at hv
  .rename_i hs;simp only[iE] at hv;subst hv;have hx':=G7 hy;rcases G8 hx' hs (fun n s hh=>by cases hh) with ⟨a,rfl,_,rfl,_⟩| ⟨b,o,cap,val,rfl,h2,h3,h4,h5,h6⟩
   .exact⟨[],aD,fun p hp=>absurd hp (gQ p),fun _=>rfl,fun n hn=>by obtain rfl:n=0:=(by simpa using hn);simpa using LQ w sz a⟩
   .refine⟨_,aD,Q5 h3 h5,fun _=>rfl,fun n hn=>?_⟩;rw[hrange _ _ _ (oI _ hn)];exact G9 (E:=E) (cap:=cap) (fun p q hp hq=>(h4 p q RS hq).1) w rfl
  .simp at hv
 |str s=>
  simp only[nQ] at hv;split at hv
  .rename_i hs;simp only[iE] at hv;subst hv;subst hs;obtain⟨cells,_,h2⟩:=agz (E:=E) (e:=(default:TypeId)) hy;cases hy with|str _ b hb=>
   subst hb;refine⟨byteCells b,by simp[byteCells],?_,fun w'=>by simp[Builtin.lenOf],fun n hn=>?_⟩
   .intro i hi;have hi':i<b.data.toList.length:=kg;have hg:(b.data.toList.map wJ).getD i aP=wJ b.data.toList[i]:=(by rw[kK hi,BS]);rw[hg];refine⟨rfl,fun j hj=>?_⟩;obtain rfl:j=0:=RS;have hv:(byteCells b).getD (i*1+0) undef= .int .u8 b.data.toList[i].toNat:=(by have Q0:i<b.size:=(by simpa using hi');simp[byteCells,List.getD,Q0]);rw[hv];exact .int _ _
   .simp only[Builtin.firstCells,Sem.run_pure];congr 1;apply Array.ext';simp[byteCells]
  .simp at hv
 |aS loc s off len cap bF Ci=>
  simp only[nQ] at hv;split at hv
  .simp at hv
  .rename_i he;have he:bF=sz:=by simpa using he
   subst he;simp only[iP] at hv;obtain⟨cs,hcs,hv⟩:=hv;split at hv
   .rename_i hc;simp only[iE] at hv;subst hv;have hlen:((chunks ag bF len (cs.drop off)).map er).length=len:=(by rw[fH,vB]);obtain⟨vals,g1,g2⟩:=agJ h hcs hc.1;have ap9:mq K Y.top w bF ((chunks ag bF len (cs.drop off)).map er) ((List.range (len*bF)).map fun q=>vals (off+q)):=by
     intro p hp;rw[hlen] at hp;have hp':p< (chunks ag bF len (cs.drop off)).length:=(by rw[vB];exact hp);have hge:((chunks ag bF len (cs.drop off)).map er).getD p aP=er ((chunks ag bF len (cs.drop off)).getD p aP):=(by simp[List.getD,hp']);rw[hge,QX];have hcc:=V7 (cs:=cs.drop off) ag (n:=bF) (k:=len) (fun hf=>by subst hf;simpa using hag) dw (fun hf=>by
      rcases hc.2 with h1|h1
      .simp only[dx,lK] at h1⊢;exact fun x hx=>h1 x (List.mem_of_mem_drop hx)
      .subst h1;cases hf) hp
     have hlt:p*bF+bF<=len*bF:=by
      have:=oI bF (Nat.succ_le_of_lt hp)
      rwa[sI] at this
     refine⟨QD,fun j hj=>?_⟩;refine Wm QD ?_;rw[hcc,rR _ hj,uh,uh];have hq:p*bF+j<len*bF:=RS;have:((List.range (len*bF)).map fun q=>vals (off+q)).getD (p*bF+j) undef=vals (off+(p*bF+j)):=(by simp[List.getD,hq]);rw[this];have:=g1.2 (off+(p*bF+j)) (by have:=hc.1;simp;omega);rw[rR _ RS] at this;have e2:((List.range (off+len*bF)).map vals).getD (off+(p*bF+j)) undef=vals (off+(p*bF+j)):=(by simp[List.getD,hq]);rw[e2] at this;exact this
    refine⟨_,by rw[hlen];simp,ap9,fun w'=>?_,fun n hn=>?_⟩
    .rw[hlen];cases hy<;>rfl
    .rw[hlen] at hn;rw[hrange _ _ _ (oI _ hn)];cases hy with
     |oL=>obtain rfl:n=0:=RS
          simp[Builtin.firstCells]
     |aS _ _ _ _ _ _ _ fB hA' hcc hlc hsz=>have hm:=oI bF hn;have:=G9 (E:=E) (w:=w) (sz:=bF) (n:=n) (cap:=fB) (b:=K.blk s) (o:=off) (val:=fun p q=>vals (off+(p*bF+q))) (fun p q hp hq=>by rw[oZ];exact g2 _ (by have:=mul_lt hp hq;omega)) w rfl;have e3:(fun q=>vals (off+(q/bF*bF+q% bF)))=fun q=>vals (off+q):=(by funext q;rw[uY (q/bF),Nat.div_add_mod]);rw[e3] at this;exact this
   .simp at hv
 |_=>simp[nQ] at hv
theorem aqa {sz n:Nat}{ys:List V}{cells:List Value}(h:mq K T w sz ys cells):mq K T w sz (ys.take n) (cells.take (n*sz)):=by
 intro i hi;have hi':i<n/\i<ys.length:=by simp at hi;omega
 obtain⟨g1,g2⟩:=h i hi'.2;rw[rR _ hi'.1];refine⟨g1,fun j hj=>?_⟩;rw[rR _ (mul_lt hi'.1 hj)];exact g2 j hj
theorem aqb (h:bH E B0 Y K w)(hB:B0<=w.heap.size){t tx ty:TypeId}{x y v:V}{cx cy:Value}{Y':ah}(hx:Rel K Y.top w x cx)(hy:Rel K Y.top w y cy)(hv:copyV E.P Y t x y=some (v,Y')):Done E B0 new Y K w (Builtin.copy_ #[t,tx] ty #[cx,cy]) v Y':=by
 simp only[copyV,iP] at hv;obtain⟨e,he,sz,hsz,ag,hag,hv⟩:=hv;split at hv
 .rename_i hc;obtain⟨c1,c2⟩:=hc;simp only[iP] at hv;obtain⟨ys,hys,hv⟩:=hv;split at hv
  .rename_i hone;have hu:=LH he;obtain⟨cells,g1,g2,g3,g4⟩:=ap8 (E:=E) h hy c2 c1 hys;cases x with
   |aS loc s off len cap bF Ci=>
    simp only[iP] at hv;obtain⟨cs,hcs,hv⟩:=hv;split at hv
    .rename_i hle;obtain⟨rfl,hle⟩:=hle;simp only[iE,mF] at hv;obtain⟨rfl,rfl⟩:=hv;obtain⟨ho,hA,hks⟩:=h.wL hcs;cases hx with
     |oL=>have e1:gM cs 0 ((ys.take (min ys.length 0)).flatMap V.cells)=cs:=(by simp[gM]);rw[e1,Wp ho];refine⟨_,w,K,?_,.int .i64 _,.refl h⟩;have g4':=g4 0 (pR _);simp at g4';simp[Builtin.copy_,run_underlying hu,g3,mo w hsz,g4',goInt]|aS _ _ _ _ _ _ _ fB hA' hcc hlc Wq=>have hn:min ys.length len<=ys.length:=Nat.min_le_left _ _;have hone':=Wn g2 g1 hone;have hty:(ys.take (min ys.length len)).length=min ys.length len:=aD;have hct:(cells.take (min ys.length len*bF)).length=(ys.take (min ys.length len)).length*bF:=(by rw[hty,mO,g1];exact Am (oI _ hn));have rf:=LU (aqa (n:=min ys.length len) g2) hct;obtain⟨w',r1,r2⟩:=agH (new:=new) h hB hcs rf (off:=off) (by rw[rf.1,hct,hty];omega) (fun u hu=>hone' u (List.mem_of_mem_take hu));refine⟨_,w',K,?_,.int .i64 _,r2⟩;have g4':=g4 _ hn;have hm:(ys.length).min len=min ys.length len:=rfl;simp[Builtin.copy_,run_underlying hu,g3,mo w hsz,hm,g4',r1,goInt]
    .simp at hv
   |ak c l=>
    cases l with
    |nil=>
     simp only[iE,mF] at hv;obtain⟨rfl,rfl⟩:=hv;refine⟨_,w,K,?_,.int .i64 0,.refl h⟩;have g4':=g4 0 (pR _);simp at g4';have hst:∀a:Addr,(storeCells a []).run E.P w= .ok () w:=fun a=>rfl;cases hx with
     |gq _ a _ _=>cases a<;>simp[Builtin.copy_,run_underlying hu,g3,mo w hsz,g4',goInt,hst]|ak=>simp[Builtin.copy_,run_underlying hu,g3,mo w hsz,g4',goInt,hst]
    |cons a l=>simp at hv
   |_=>simp at hv
  .simp at hv
 .simp at hv
theorem aqc (h:bH E B0 Y K w)(hB:B0<=w.heap.size){t ty:TypeId}{x v:V}{cx:Value}{Y':ah}(hx:Rel K Y.top w x cx)(hv:GL E.P Y t x=some (v,Y')):Done E B0 new Y K w (Builtin.clear_ #[t] ty #[cx]) v Y':=by
 unfold GL at hv;cases hv
end
section
variable {E:Env}{B0:Nat}{Y:ah}{K:bA}{w:World}{new:Nat->Prop}{T:Nat->Nat}
theorem aqd (h:bH E B0 Y K w){t ty:TypeId}{ts:Array TypeId}{x:V}{cx:Value}{n:Nat}(ht:ts[0]? =some t)(hx:Rel K Y.top w x cx)(hv:vo E Y t x=some n):(Builtin.len_ ts ty #[cx]).run E.P w= .ok (.int .i64 n) w:=by
 unfold vo at hv;split at hv
 .rename_i m e hu;simp only[iE] at hv;subst hv;simp[Builtin.len_,ht,run_underlying hu,goInt]
 .rename_i k e loc s hu;simp only[aY] at hv;obtain⟨⟨ks,vs⟩,hm,rfl⟩:=hv;unfold ah.lD at hm;split at hm
  .rename_i s' ks' vs' ho;split at hm
   .rename_i hs;subst hs;simp only[iE,mF] at hm;obtain⟨rfl,rfl⟩:=hm;obtain⟨_,⟨_,es,fu,g1,g2,_⟩,_⟩:=h.obj _ _ _ ho;cases hx;have hg:(getObj (K.blk s')).run E.P w= .ok (.map es fu) w:=(by simp[getObj,Sem.run,g1]);simp[Builtin.len_,ht,run_underlying hu,goInt,hg,g2]
   .simp at hm
  .simp at hm
 .rename_i k e ks vs hu;simp only[iE] at hv;subst hv;cases hx with|fD _ _ b es fu hM hb hk hv' rk rv=>
  have hg:(getObj b).run E.P w= .ok (.map es fu) w:=by simp[getObj,Sem.run,hb]
  simp[Builtin.len_,ht,run_underlying hu,goInt,hg,hk]
 .rename_i k e hu;simp only[iE] at hv;subst hv;cases hx;simp[Builtin.len_,ht,run_underlying hu,goInt]
 .rename_i a x hu;simp only[aY] at hv;obtain⟨⟨m,e⟩,hm,rfl⟩:=hv;simp[Builtin.len_,ht,run_underlying hu,run_underlying (agn hm),goInt]
 .rename_i e c l hu;simp only[iE] at hv;subst hv;cases hx<;>simp[Builtin.len_,ht,run_underlying hu,goInt]
 .rename_i e loc s off len cap bF ag hu;simp only[iE] at hv;subst hv;cases hx<;>simp[Builtin.len_,ht,run_underlying hu,goInt]
 .rename_i s hu;simp only[iE] at hv;subst hv;cases hx with|str _ b hb=>
  subst hb;simp[Builtin.len_,ht,run_underlying hu,goInt]
 .simp at hv
theorem aqe {t e ty:TypeId}{ts:Array TypeId}{x v:V}{cx:Value}{Y':ah}(ht:ts[0]? =some t)(hu:E.P.underlying t=some (.slice e))(hv:(match x with|.ak .nil l|.ak .full l=>some (V.int .i64 l.length,Y)|_=>none)=some (v,Y'))(hx:Rel K Y.top w x cx):
 Y'=Y/\∃c,(Builtin.cap_ ts ty #[cx]).run E.P w= .ok c w/\Rel K Y.top w v c:=by
 cases x with
 |ak c l=>
  cases c with
  |nil=>
   simp only[iE,mF] at hv;obtain⟨rfl,rfl⟩:=hv;cases hx with
   |gq _ a=>exact⟨rfl,_,by cases a<;>simp[Builtin.cap_,ht,run_underlying hu,goInt],.int .i64 0⟩|ak _ _ _ _ _ _ _ _ _ _ _ hc=>exact hc.elim
  |full=>
   simp only[iE,mF] at hv;obtain⟨rfl,rfl⟩:=hv;cases hx with
   |gq _ a=>exact⟨rfl,_,by cases a<;>simp[Builtin.cap_,ht,run_underlying hu,goInt],.int .i64 0⟩|ak _ _ _ _ _ cap _ _ _ _ _ hc=>have hc:cap=l.length:=hc;subst hc;exact⟨rfl,_,by simp[Builtin.cap_,ht,run_underlying hu,goInt],.int .i64 _⟩
  |_=>simp at hv
 |_=>simp at hv
theorem agL:∀(l:List V)(cl:List Value)(x v:V)(cx:Value),l.length=cl.length->(∀i,i<l.length->Rel K T w (l.getD i aP) (cl.getD i undef))->Rel K T w x cx->yc false x l=some v->
 ∃c,(cl.foldlM Builtin.min2 cx).run E.P w= .ok c w/\Rel K T w v c
 | [],[],x,v,cx,_,_,hx,hv=>by simp only[yc,iE] at hv;subst hv;exact⟨cx,rfl,hx⟩|y::l,cy::cl,x,v,cx,hl,hr,hx,hv=>by
  cases x<;>cases y<;>simp only[yc,reduceCtorEq] at hv;rename_i k a k' b;split at hv
  .rename_i hk;subst hk;have h0:=hr 0 aD;simp at h0;cases hx;cases h0;obtain⟨c,h1,h2⟩:=agL l cl _ v (.int k (if b<a then b else a)) BO (fun i hi=>by have:=hr (i+1) dw;simpa using this) (.int k _) hv;exact⟨c,by simpa [Builtin.min2] using h1,h2⟩
  .simp at hv
 | [],_::_,_,_,_,h,_,_,_=>wH|_::_,[],_,_,_,h,_,_,_=>wH
theorem agM:∀(l:List V)(cl:List Value)(x v:V)(cx:Value),l.length=cl.length->(∀i,i<l.length->Rel K T w (l.getD i aP) (cl.getD i undef))->Rel K T w x cx->yc true x l=some v->
 ∃c,(cl.foldlM Builtin.max2 cx).run E.P w= .ok c w/\Rel K T w v c
 | [],[],x,v,cx,_,_,hx,hv=>by simp only[yc,iE] at hv;subst hv;exact⟨cx,rfl,hx⟩|y::l,cy::cl,x,v,cx,hl,hr,hx,hv=>by
  cases x<;>cases y<;>simp only[yc,reduceCtorEq] at hv;rename_i k a k' b;split at hv
  .rename_i hk;subst hk;have h0:=hr 0 aD;simp at h0;cases hx;cases h0;obtain⟨c,h1,h2⟩:=agM l cl _ v (.int k (if b>a then b else a)) BO (fun i hi=>by have:=hr (i+1) dw;simpa using this) (.int k _) hv;exact⟨c,by simpa [Builtin.max2] using h1,h2⟩
  .simp at hv
 | [],_::_,_,_,_,h,_,_,_=>wH|_::_,[],_,_,_,h,_,_,_=>wH
end
section
variable {E:Env}{B0:Nat}{Y:ah}{K:bA}{w:World}{new:Nat->Prop}{T:Nat->Nat}
def vC (E:Env)(B0:Nat)(new:Nat->Prop)(Y:ah)(K:bA)(w:World)(s:Sem Next)(v:V)(Y':ah):Prop:=
 ∃nx c w' K',s.run E.P w= .ok nx w'/\(nx= .value c\/(nx= .skip/\c=undef))/\Rel K' Y'.top w' v c/\Step E B0 new Y K w Y' K' w'
theorem vC.uo {s:Sem Value}{v:V}{Y':ah}(h:Done E B0 new Y K w s v Y'):vC E B0 new Y K w (do pure (.value (<-s))) v Y':=by obtain⟨c,w',K',h1,h2,h3⟩:=h;exact⟨.value c,c,w',K',by simp[h1],.inl rfl,h2,h3⟩
theorem vC.iw (h:bH E B0 Y K w){s:Sem Value}{v:V}(hs:∃c,s.run E.P w= .ok c w/\Rel K Y.top w v c):vC E B0 new Y K w (do pure (.value (<-s))) v Y:=
 .uo (.iw h hs)
theorem vC.Wt {s:Sem Unit}{Y':ah}{K':bA}{w':World}(h:s.run E.P w= .ok () w')(hs:Step E B0 new Y K w Y' K' w'):vC E B0 new Y K w (do s;pure .skip) aP Y':=
 ⟨.skip,undef,w',K',Ei,.inr ⟨rfl,rfl⟩,.undef _ _ _,hs⟩
theorem EJ {fr:Fr}{a:Act}(h:bH E B0 Y K w)(hf:mU K Y.top w fr a.tmps)(xs:Array Operand):(xs.toList.map (fr.ev E)).length=(xs.map a.eval).size/\∀i,i< (xs.toList.map (fr.ev E)).length->Rel K Y.top w ((xs.toList.map (fr.ev E)).getD i aP) ((xs.map a.eval).getD i undef):=by
 refine⟨aD,fun i hi=>?_⟩;have hi':i<xs.size:=kg
 have e1:(xs.toList.map (fr.ev E)).getD i aP=fr.ev E xs[i]:=Lg
 have e2:(xs.map a.eval).getD i undef=a.eval xs[i]:=by simp[Array.getD,hi']
 rw[e1,e2];exact Ay h hf _
theorem agN {v:V}{c:Value}{b:Bool}(hr:Rel K T w v c)(h:yg v=some b):c= .bool b:=by
 cases v<;>simp only[yg,reduceCtorEq,iE] at h;subst h;cases hr;rfl
theorem agO (h:bH E B0 Y K w)(hB:B0<=w.heap.size){st:Nat}(hst:¬K.A st)(loc:Loc)(t:TypeId){x:V}{cx:Value}(hx:Rel K Y.top w x cx)(hraw:fE x=true):
 Done E B0 (· =st) Y K w (do pure (.pointer (some (<-newVar t cx)))) (.ref loc st 0) (Y.setObj loc st (.cells x.cells)):=by
 obtain⟨h1,h2⟩:=Cg hx hraw;have hstep:=Step.QS h hB hst loc (.cells x.cells) (.cells cx.cells t) cx.cells.size (fun K' e' _ hb' hs'=>
  ⟨fun h0=>by rw[hs',<-h1,h0];rfl,fun _=>⟨QJ,_,t,by rw[hb'];exact heap_alloc_new w _,hs'.symm,by rw[h1];exact iR _,fun i hi=>(h2 i hi).ext e'⟩⟩)
 refine⟨.pointer (some (at_ w.heap.size 0)),_,_,by simp[newVar,newRow],?_,hstep⟩;have key:Rel (K.nR st w.heap.size cx.cells.size loc) (Y.setObj loc st (.cells x.cells)).top (w.alloc (.cells cx.cells t)) (.ref loc st 0) (.pointer (some (at_ ((K.nR st w.heap.size cx.cells.size loc).blk st) 0))):=.ref loc st 0 (Or.inr rfl);have hblk:(K.nR st w.heap.size cx.cells.size loc).blk st=w.heap.size:=upd_same _ _ _;rw[hblk] at key;exact key
theorem aqf (h:bH E B0 Y K w)(hB:B0<=w.heap.size){st:Nat}(t:TypeId){x:V}{cx:Value}(hx:Rel K Y.top w x cx)(hraw:fE x=true):
 Done E B0 (· =st) Y K w (do pure (.pointer (some (<-newVar t cx)))) (.aW x.cells 0) Y:=by
 obtain⟨h1,h2⟩:=Cg hx hraw;have hst:=Step.agh (new:=(· =st)) h hB cx.cells t (0,0);refine⟨.pointer (some (at_ w.heap.size 0)),_,_,by simp[newVar,newRow],?_,hst⟩;have hcell:∀j,j<cx.cells.size->(w.alloc (.cells cx.cells t)).cell? (at_ w.heap.size (0+j))=some (cx.cells.getD j undef):=fun j hj=>by rw[o7];exact LD hj
 exact .aW x.cells 0 w.heap.size 0 (fun j=>cx.cells.getD j undef) (fun j hj=>⟨hcell j RS,.inr ⟨rfl,RS⟩⟩) (fun j hj=>(h2 j hj).ext hst.ext)
theorem aqg (h:bH E B0 Y K w)(hB:B0<=w.heap.size){st:Nat}(hst:¬K.A st)(loc:Loc)(t:TypeId):
 Done E B0 (· =st) Y K w (Instr.makeMap t none) (.fq loc st) (Y.setObj loc st (.map [] [])):=by
 have hstep:=Step.QS h hB hst loc (.map [] []) (.map #[] 0) 0 (fun K' e' _ hb' hs'=>
  ⟨QJ, #[],0,by rw[hb'];exact heap_alloc_new w _,rfl,rfl,fun i hi=>absurd hi (gQ i),fun i hi=>absurd hi (gQ i)⟩)
 refine⟨.map (some w.heap.size),_,_,by simp[Instr.makeMap],?_,hstep⟩;have key:Rel (K.nR st w.heap.size 0 loc) (Y.setObj loc st (.map [] [])).top (w.alloc (.map #[] 0)) (.fq loc st) (.map (some ((K.nR st w.heap.size 0 loc).blk st))):=.fq loc st (Or.inr rfl);have hblk:(K.nR st w.heap.size 0 loc).blk st=w.heap.size:=upd_same _ _ _;rw[hblk] at key;exact key
def bA.freeze (K:bA)(b n:Nat):bA:={K with I:=fun b' o=>K.I b' o\/(b'=b/\o<n),Z:=upd K.Z b none}
theorem agP (K:bA)(T:Nat->Nat)(w:World)(b n:Nat):Ext K T w (K.freeze b n) T w:=
 ⟨fun _ h=>⟨h,rfl,rfl,rfl⟩,fun _ _=>.inl ⟨rfl,rfl,rfl,rfl⟩,fun _ _ h=>⟨.inl h,rfl⟩,fun _ h=>⟨h,rfl⟩⟩
theorem Step.freeze (h:bH E B0 Y K w){loc:Loc}{s:Nat}{cs:List V}(hs:Y.obj loc=some (s,.cells cs))(hne:cs≠[]){n:Nat}(hn:∀i,i<n->∃v,w.cell? (at_ (K.blk s) i)=some v):
 Step E B0 new Y K w (Y.ko loc) (K.freeze (K.blk s) n) w:=by
 obtain⟨a1,a2,a3⟩:=h.obj loc s _ hs;obtain⟨b1,_⟩:=a2.2 hne;have hZ:K.Z (K.blk s)=some (.obj loc):=a3 (by cases cs with|nil=>exact absurd rfl hne|cons _ _=>trivial);have e:=agP K Y.top w (K.blk s) n;have hne':∀b r,K.Z b=some r->r≠ .obj loc->b≠K.blk s:=fun b r h1 h2 e=>by rw[e,hZ] at h1;exact h2 (kS h1).symm
 refine⟨⟨fun loc' s' ob hs'=>?_,fun s' hA hlt=>?_,fun b o hi=>?_,fun b hi=>?_,fun l r hl=>?_,fun g cs hg=>(h.glob g cs hg).ext e,fun b r hr=>?_,h.D⟩,e,.refl _ _,fun _ h=>h,fun _ h=>.inl h,fun b o hi=>?_,fun _ h=>.inl h⟩
 .by_cases hl:loc'=loc
  .subst hl;simp[ah.ko,upd_same] at hs'
  .simp only[ah.ko,upd_ne _ _ hl] at hs';obtain⟨g1,g2,g3⟩:=h.obj loc' s' ob hs';refine⟨g1,g2.ext e g1 (fun _=>rfl),fun hr=>?_⟩;have h1:=g3 hr;have h2:K.blk s'≠K.blk s:=hne' _ _ h1 (fun e=>hl (by cases e;rfl));show upd K.Z (K.blk s) none (K.blk s')=_;rw[upd_ne _ _ h2];exact h1
 .obtain⟨g1,g2,g3⟩:=h.own s' hA hlt;have h2:K.ob s'≠K.blk s:=hne' _ _ g2 (fun e=>by cases e);refine⟨g1,?_,fun o h3 h4=>?_⟩
  .show upd K.Z (K.blk s) none (K.ob s')=_;rw[upd_ne _ _ h2];exact g2
  .obtain⟨c1,c2,c3⟩:=g3 o h3 h4;exact⟨fun hi=>hi.elim c1 (fun hi=>h2 hi.1),c2,c3⟩
 .have hk:∀loc',(K.freeze (K.blk s) n).Z b≠some (.obj loc')\/K.Z b=some (.obj loc'):=fun loc'=>by
   by_cases hb:b=K.blk s
   .left;show upd K.Z (K.blk s) none b≠_;rw[hb,upd_same];simp
   .by_cases hq:K.Z b=some (.obj loc')
    .exact .inr hq
    .left;show upd K.Z (K.blk s) none b≠_;rw[upd_ne _ _ hb];exact hq
  rcases hi with hi| ⟨rfl,hi⟩
  .obtain⟨g1,g2⟩:=h.I b o hi;exact⟨g1,fun loc'=>(hk loc').resolve_right (g2 loc')⟩
  .refine⟨hn o hi,fun loc'=>?_⟩;show upd K.Z (K.blk s) none (K.blk s)≠_;rw[upd_same];simp
 .obtain⟨g1,g2⟩:=h.IM b hi;refine⟨g1,fun loc'=>?_⟩;show upd K.Z (K.blk s) none b≠_;by_cases hb:b=K.blk s
  .rw[hb,upd_same];simp
  .rw[upd_ne _ _ hb];exact g2 loc'
 .obtain⟨g1,g2⟩:=h.loop l r hl;have h2:K.lp l≠K.blk s:=hne' _ _ g2.2.1 (fun e=>by cases e);exact⟨g1,g2.ext e g1 rfl (upd_ne _ _ h2)⟩
 .have hr':upd K.Z (K.blk s) none b=some r:=hr;by_cases hb:b=K.blk s
  .rw[hb,upd_same] at hr';cases hr'
  .rw[upd_ne _ _ hb] at hr';exact h.rb b r hr'
 .rcases hi with hi| ⟨rfl,_⟩
  .exact .inl hi
  .exact .inr b1
theorem aqh (h:bH E B0 Y K w){x v:V}{c:Value}{Y':ah}(hr:Rel K Y.top w x c)(hv:yj Y x=some (v,Y')):∃K',Rel K' Y'.top w v c/\Step E B0 new Y K w Y' K' w:=by
 unfold yj at hv;split at hv
 .rename_i loc s off len cap bF ag;simp only[iP] at hv;obtain⟨cs,hcs,hv⟩:=hv;split at hv
  .rename_i hc;obtain⟨hlen,hag⟩:=hc;simp only[iE,mF] at hv;obtain⟨rfl,rfl⟩:=hv;have LW:ag=false->bF=1:=fun e=>by simp[e] at hag;exact hag.1
   have LX:ag=false->dx (((cs.drop off).take (len*bF)).map gH)=true:=fun e=>by simp only[e,Bool.false_or,aZ] at hag;exact hag.2
   cases hr with
   |oL _ _ _ _ hA=>exact⟨K,.gq .sh none (fun _=>rfl) trivial,.ko h loc⟩
   |aS _ _ _ _ _ _ _ fB hA hcp hle hsz=>
    by_cases hne:cs=[]
    .subst hne;have h0:len*bF=0:=(by simp at hlen;omega);refine⟨K,?_,.ko h loc⟩;exact GZ (w:=w) (val:=fun _=>undef) LW (by rw[h0];exact pR _) LX (fun j hj=>RS) (fun j hj=>RS) RS trivial
    .obtain⟨g1,_,_⟩:=h.wL hcs;obtain⟨a1,a2,a3⟩:=h.obj _ _ _ g1;obtain⟨b1,vals,t,b2,b3,b4,b5⟩:=a2.2 hne;have e6:∀i,i<vals.size->w.cell? (at_ (K.blk s) i)=some (vals.getD i undef):=fun i hi=>by simp[World.cell?,b2,Array.getD,hi]
     refine⟨K.freeze (K.blk s) vals.size,?_,.freeze h g1 hne (fun i hi=>⟨_,e6 i hi⟩)⟩;have hl':((cs.drop off).take (len*bF)).length=len*bF:=dw;refine GZ (w:=w) (val:=fun i=>vals.getD (off+i) undef) LW dw LX (fun j hj=>⟨e6 _ RS,.inr ⟨rfl,RS⟩⟩) (fun j hj=>?_) RS trivial;have hj':j< ((cs.drop off).take (len*bF)).length:=RS;have e1:(((cs.drop off).take (len*bF)).map gH).getD j aP=gH (cs.getD (off+j) aP):=(by rw[<-uh,<-rR (cs.drop off) hj,kK (by simpa using hj'),kK hj'];simp);rw[e1];exact(G7 (b5 _ RS)).ext (agP _ _ _ _ _)
  .simp at hv
 .rename_i cc l;simp only[iE,mF] at hv;obtain⟨rfl,rfl⟩:=hv;exact⟨K,G7 hr,.refl h⟩
 .simp only[iE,mF] at hv;obtain⟨rfl,rfl⟩:=hv;exact⟨K,hr,.refl h⟩
theorem aqi {t xt:TypeId}{ok:Bool}{x v:V}{cx:Value}(hx:Rel K Y.top w x cx)(hv:VJ E.P t ok x=some v):
 ∃c,(Instr.typeAssert cx xt t ok).run E.P w= .ok c w/\Rel K Y.top w v c:=by
 unfold VJ at hv;have two:∀{a b:V}{ca cb:Value},Rel K Y.top w a ca->Rel K Y.top w b cb->Rel K Y.top w (.bV [a,b]) (.tuple #[ca,cb]):=fun {a b ca cb} ha hb=>.bV _ _ rfl (fun i hi=>by
  match i,hi with
  |0,_=>exact ha|1,_=>exact hb)
 split at hv
 .cases hv
 .cases hv
 .rename_i d hni hd;have hu:(underlying t).run E.P w= .ok d w:=run_underlying hd w;split at hv
  .rename_i u y;cases hx with
   |iface _ _ c hr=>
   split at hv
   .rename_i hut;subst hut;simp only[iE] at hv;cases ok with
    |true=>simp only[if_true] at hv;subst hv;refine⟨_,?_,two hr (.bool true)⟩;cases d<;>first| (exact absurd rfl (hni _))|simp[Instr.typeAssert,hu]
    |false=>simp only[dG,if_false] at hv;subst hv;refine⟨_,?_,hr⟩;cases d<;>first| (exact absurd rfl (hni _))|simp[Instr.typeAssert,hu]
   .rename_i hut;split at hv
    .rename_i hok;subst hok;simp only[aY] at hv;obtain⟨z,hz,rfl⟩:=hv;obtain⟨c,h1,h2⟩:=EH (w:=w) hz;refine⟨_,?_,two (h2 _ _) (.bool false)⟩;cases d<;>first| (exact absurd rfl (hni _))|simp[Instr.typeAssert,hu,hut,h1]
    .cases hv
  .cases hx;split at hv
   .rename_i hok;subst hok;simp only[aY] at hv;obtain⟨z,hz,rfl⟩:=hv;obtain⟨c,h1,h2⟩:=EH (w:=w) hz;refine⟨_,?_,two (h2 _ _) (.bool false)⟩;cases d<;>first| (exact absurd rfl (hni _))|simp[Instr.typeAssert,hu,h1]
   .cases hv
  .cases hv
theorem aqj (h:bH E B0 Y K w)(hB:B0<=w.heap.size){fr:Fr}{a:Act}(hf:mU K Y.top w fr a.tmps){st:Nat}(hst:¬K.A st){o:Oper}{v:V}{Y':ah}(hv:dK E fr Y st o=some (v,Y')):
 vC E B0 (· =st) Y K w (execOp a.eval o) v Y':=by
 have ev:=fun x=>Ay h hf x;unfold dK at hv;unfold execOp;split at hv
 .rename_i x hop;split at hv
  .obtain⟨K',r1,r2⟩:=aqh (new:=(· =st)) h (ev x) hv;simp only[hop];exact⟨.value (a.eval x),a.eval x,w,K',rfl,.inl rfl,r1,r2⟩
  simp only[iE,mF] at hv;obtain⟨rfl,rfl⟩:=hv;simp only[hop];exact⟨.value (a.eval x),a.eval x,w,K,rfl,.inl rfl,ev x,.refl h⟩
 .rename_i x hop;simp only[iE,mF] at hv;obtain⟨rfl,rfl⟩:=hv;simp only[hop];exact⟨.value (a.eval x),a.eval x,w,K,rfl,.inl rfl,ev x,.refl h⟩
 .rename_i c x y hop;simp only[aY,mF] at hv;obtain⟨b,hb,rfl,rfl⟩:=hv;simp only[hop];have hc:=agN (ev c) hb;refine⟨.value (if b then a.eval x else a.eval y),_,w,K,by simp[asBool,hc],.inl rfl,?_,.refl h⟩;cases b
  .exact ev y
  .exact ev x
 .rename_i t hop;simp only[iP] at hv;obtain⟨loc,_,z,hz,hv⟩:=hv;split at hv
  .simp only[iE,mF] at hv;obtain⟨rfl,rfl⟩:=hv;simp only[hop];obtain⟨cz,hz1,hz2⟩:=EH w hz;obtain⟨c,w',K',r1,r2,r3⟩:=agO h hB hst loc t (hz2 K Y.top) (LG hz);refine .uo ⟨c,w',K',?_,r2,r3⟩;simp only[Instr.alloc,Sem.run_bind,hz1,Result.andThen_ok];exact r1
  .simp at hv
 .rename_i t x hop;split at hv
  .split at hv
   .rename_i hc;simp only[iE,mF] at hv;obtain⟨rfl,rfl⟩:=hv;simp only[hop];exact .uo (aqf h hB t (Wj (ev x)) (apN hc.2))
   .simp at hv
  simp only[iP] at hv;obtain⟨loc,_,hv⟩:=hv;split at hv
  .rename_i hc;simp only[iE,mF] at hv;obtain⟨rfl,rfl⟩:=hv;simp only[hop];exact .uo (agO h hB hst loc t (ev x) hc.2)
  .simp at hv
 .rename_i t parts hop;simp only[iP,aY,mF] at hv;obtain⟨pl,hpl,z,hz,cs,hcs,rfl,rfl⟩:=hv;simp only[hop];refine .iw h (apM hpl hz ?_ (LG hz) hcs);rw[Array.toList_map];exact QW h hf _
 .rename_i t len parts hop;split at hv
  .simp only[hop];refine .uo (ap7 h hB hst ?_ hv);rw[Array.toList_map];exact QW h hf _
  .simp only[aY,mF] at hv;obtain⟨v',hv',rfl,rfl⟩:=hv;simp only[hop];refine .uo (apP h hB ?_ hv');rw[Array.toList_map];exact QW h hf _
 .rename_i t x hop;simp only[hop];have hx:=ev x;generalize fr.ev E x=xv at hv hx;cases xv with
  |ref loc s off=>simp only[iP,aY,mF] at hv;obtain⟨cs,h1,v',h2,rfl,rfl⟩:=hv;exact .iw h (V9 h hx (by simp[h1,h2]))
  |aW cs off=>simp only[aY,mF] at hv;obtain⟨v',h2,rfl,rfl⟩:=hv;exact .iw h (V9 h hx h2)
  |_=>simp at hv
 .rename_i t p x hop;simp only[hop];have hp:=ev p;have hx:=ev x;generalize fr.ev E p=pv at hv hp;cases pv with
  |ref loc s off=>
   simp only[iP] at hv;obtain⟨cs,hcs,hv⟩:=hv;split at hv
   .rename_i hc;simp only[iE,mF] at hv;obtain⟨rfl,rfl⟩:=hv;obtain⟨w',r1,r2⟩:=apI (new:=(· =st)) h hB hp hx hcs hc.1 hc.2.1 hc.2.2;exact .Wt r1 r2
   .simp at hv
  |_=>simp at hv
 .rename_i x hop;simp only[hop];have hx:=ev x;generalize fr.ev E x=xv at hv hx;cases xv with
  |ref loc s off=>simp only[iE,mF] at hv;obtain⟨rfl,rfl⟩:=hv;generalize a.eval x=cx at hx;cases hx with|ref _ _ _ hA=>exact⟨_,_,w,K,rfl,.inl rfl,.ref loc s off hA,.refl h⟩
  |aW cs off=>simp only[iE,mF] at hv;obtain⟨rfl,rfl⟩:=hv;generalize a.eval x=cx at hx;have hx':=hx;cases hx with|aW _ _ b o val h1 h2=>exact⟨_,_,w,K,rfl,.inl rfl,hx',.refl h⟩
  |fn f g l=>
   cases f with
   |func f=>simp only[iE,mF] at hv;obtain⟨rfl,rfl⟩:=hv;generalize a.eval x=cx at hx;have hx':=hx;cases hx with|fn _ _ _ kV bv h1 h2 h3 h4=>exact⟨_,_,w,K,rfl,.inl rfl,hx',.refl h⟩
   |_=>simp at hv
  |_=>simp at hv
 .rename_i op t x y _ hop;simp only[aY,mF] at hv;obtain⟨v',hv',rfl,rfl⟩:=hv;simp only[hop];exact .iw h (apB w x y (ev x) (ev y) hv')
 .rename_i op t x hop;simp only[aY,mF] at hv;obtain⟨v',hv',rfl,rfl⟩:=hv;simp only[hop];exact .iw h (apC w (ev x) hv')
 .rename_i s d x hop;simp only[aY,mF] at hv;obtain⟨v',hv',rfl,rfl⟩:=hv;simp only[hop];exact .uo (apF h hB (ev x) hv')
 .rename_i t x hop;simp only[iP] at hv;obtain⟨⟨n,e⟩,hn,hv⟩:=hv;have hu:=agn hn;simp only[hop];have hx:=ev x;generalize fr.ev E x=xv at hv hx;generalize a.eval x=cx at hx;cases xv with
  |aS loc s off len cap bF ag=>
   simp only at hv;split at hv
   .rename_i hle;simp only[iE,mF] at hv;obtain⟨rfl,rfl⟩:=hv;cases hx with
    |oL=>omega|aS _ _ _ _ _ _ _ fB hA hcc hlc hsz=>have:¬(len<n):=RS;exact .iw h ⟨_,by simp[Instr.arrayAt,run_underlying hu,this],.ref loc s off hA⟩
   .simp at hv
  |ak c l=>
   simp only at hv;split at hv
   .rename_i hc;obtain⟨c1,c2,c3⟩:=hc;simp only[iE,mF] at hv;obtain⟨rfl,rfl⟩:=hv;cases hx with
    |gq=>simp at c2;omega|ak _ _ b o m cap val hle hn hcell hrel hcap=>
     have hlt:¬(l.length<n):=RS;have hone:∀i,i<l.length->(l.getD i aP).cells=[l.getD i aP]:=fun i hi=>by simp only[dx,lK] at c3;have:=c3 _ (lM hi);rw[kK hi];revert this;cases l[i]<;>simp[oneCell,V.cells]
     have hm:m=1:=(by have h0:0<l.length:=RS;rw[<-hn 0 h0,hone 0 h0];rfl);subst hm;refine .iw h ⟨.pointer (some (at_ b (o+0))),by simp[Instr.arrayAt,run_underlying hu,hlt],.aW (l.take n) 0 b o (fun j=>val j 0) (fun j hj=>?_) (fun j hj=>?_)⟩
     .have hj':j<l.length:=(by rw[mO] at hj;omega);have:=hcell j 0 hj' RS;simpa using this
     .have hj':j<l.length:=(by rw[mO] at hj;omega);have hjn:j<n:=(by rw[mO] at hj;omega);have:=hrel j 0 hj' RS;rw[hone j hj'] at this;have e:(l.take n).getD j aP=l.getD j aP:=(by rw[nE,nE,List.getElem?_take_of_lt hjn]);rw[e];simpa using this
   .simp at hv
  |_=>simp at hv
 .rename_i t x hop;simp only[hop];split at hv
  .simp at hv
  .rename_i d hu hd;simp only[iE,mF] at hv;obtain⟨rfl,rfl⟩:=hv;refine .iw h ⟨.iface t (a.eval x),?_,.iface t _ _ (ev x)⟩;simp only[Instr.makeInterface,Sem.run_bind,run_underlying hd,Result.andThen_ok];rfl
  .simp at hv
 .rename_i f p q hop;simp only[iE,mF] at hv;obtain⟨rfl,rfl⟩:=hv;simp only[hop];obtain⟨h1,h2⟩:=EJ h hf p;obtain⟨h3,h4⟩:=EJ h hf q;exact .iw h ⟨_,rfl,.fn f _ _ _ _ h1 h3 h2 h4⟩
 .rename_i t hop;simp only[aY,mF] at hv;obtain⟨loc,_,rfl,rfl⟩:=hv;simp only[hop];exact .uo (aqg h hB hst loc t)
 .rename_i t l c hop;simp only[hop];exact .uo (ap6 h hB hst (ev l) (ev c) hv)
 .rename_i t x lo hi mx hop;simp only[aY,mF] at hv;obtain⟨v',hv',rfl,rfl⟩:=hv;simp only[hop];have opt:∀(p:Option Operand) v,lC E fr p=some v->∃c,p.map a.eval=some c/\Rel K Y.top w v c:=by
   intro p v hp;cases p with
   |none=>simp[lC] at hp|some p=>simp only[lC,iE] at hp;subst hp;exact⟨_,rfl,ev p⟩
  have Wu:∀(p:Option Operand),lC E fr p=none->p.map a.eval=none:=by
   intro p hp;cases p with
   |none=>rfl|some p=>simp[lC] at hp
  exact .iw h (apD w rfl h (ev x) (opt lo) (Wu lo) (opt hi) (Wu hi) (opt mx) (Wu mx) hv')
 .rename_i t x f hop;simp only[iP] at hv;obtain⟨⟨o',u⟩,hfi,hv⟩:=hv;simp only[hop];have hx:=ev x;generalize fr.ev E x=xv at hv hx;cases xv with
  |ref loc s off=>simp only[iE,mF] at hv;obtain⟨rfl,rfl⟩:=hv;exact .iw h (agu hx hfi rfl)
  |aW cs off=>simp only[iE,mF] at hv;obtain⟨rfl,rfl⟩:=hv;exact .iw h (agu hx hfi rfl)
  |_=>simp at hv
 .rename_i t x f hop;simp only[iP] at hv;obtain⟨⟨o',u⟩,hfi,hv⟩:=hv;simp only[hop];have hx:=ev x;generalize fr.ev E x=xv at hv hx;generalize a.eval x=cx at hx;cases xv with
  |agg cs=>
   simp only[aY,mF] at hv;obtain⟨v',hv',rfl,rfl⟩:=hv;cases hx with|agg _ vs hl hr=>
   obtain⟨fs,g,n,hu,hg,rfl,rfl,hn⟩:=agp hfi;obtain⟨c,r1,r2⟩:=GX (P:=E.P) (w:=w) hl hr hv';exact .iw h ⟨c,by simp[Instr.field,run_underlying hu,hg,asAgg,r1],r2⟩
  |_=>simp at hv
 .rename_i t x i hop;simp only[aY,mF] at hv;obtain⟨v',hv',rfl,rfl⟩:=hv;simp only[hop];exact .iw h (apG (ev x) (ev i) hv')
 .rename_i t x i hop;simp only[aY,mF] at hv;obtain⟨v',hv',rfl,rfl⟩:=hv;simp only[hop];exact .iw h (apH (ev x) (ev i) hv')
 .rename_i t x i ok hop;simp only[aY,mF] at hv;obtain⟨v',hv',rfl,rfl⟩:=hv;simp only[hop];exact .iw h (apL h (ev x) (ev i) hv')
 .rename_i t m k x hop;simp only[aY,mF] at hv;obtain⟨aB,hv',rfl,rfl⟩:=hv;simp only[hop];obtain⟨w',r1,r2,_⟩:=agv (new:=(· =st)) h hB (ev m) (ev k) (ev x) hv';exact .Wt r1 r2
 .rename_i t m k x hop;simp only[aY,mF] at hv;obtain⟨aB,hv',rfl,rfl⟩:=hv;simp only[hop];obtain⟨w',r1,r2,_⟩:=agv (new:=(· =st)) h hB (ev m) (ev k) (ev x) hv';exact .Wt r1 r2
 .rename_i x i hop;simp only[hop];have hx:=ev x;generalize fr.ev E x=xv at hv hx;generalize a.eval x=cx at hx;cases xv with
  |bV vs=>
   simp only[aY,mF] at hv;obtain⟨v',hv',rfl,rfl⟩:=hv;cases hx with|bV _ agQ hl hr=>
   have hi:i<vs.length:=(uX.1 hv').1;have hi':i<agQ.size:=RS
   refine .iw h ⟨agQ[i],by simp[Instr.extract,hi'],?_⟩;have:=hr i hi;rw[kK hi,GV hi'] at this;have e:vs[i]=v':=(uX.1 hv').2;rw[<-e];exact this
  |_=>simp at hv
 .rename_i x xt t ok hop;simp only[aY,mF] at hv;obtain⟨v',hv',rfl,rfl⟩:=hv;simp only[hop];exact .iw h (aqi (ev x) hv')
 .simp at hv
end
end aQ
end
