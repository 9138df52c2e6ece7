import Derived.Deep.Upon
import Derived.Test.YteniejlbjfigdaaGreatDoorF501
set_option linter.all false
section
namespace aR
open Go Go.RowKit
section
variable {E:Env}{B0:Nat}{Z:ah}{K:bq}{w:World}{new:Nat->Prop}{T:Nat->Nat}
def Src (P:Program)(w:World)(sz n:Nat)(cx:Value)(cells:List Value):Prop:=
 cells.length=n*sz/\∀w',w'.heap=w.heap->(Builtin.firstCells sz n cx).run P w'= .ok cells.toArray w'
def lJ (K:bq)(T:Nat->Nat)(w:World)(sz:Nat)(l:List V)(cells:List Value):Prop:=
 ∀i,i<l.length->(l.getD i aJ).cells.length=sz/\∀j,j<sz->Rel K T w ((l.getD i aJ).cells.getD j aJ) (cells.getD (i*sz+j) undef)
theorem lJ.ext {K' T' w'}{sz:Nat}{l:List V}{cells:List Value}(h:lJ K T w sz l cells)(e:Ext K T w K' T' w'):lJ K' T' w' sz l cells:=
 fun i hi=>⟨(h i hi).1,fun j hj=>((h i hi).2 j hj).ext e⟩
theorem mul_lt {i j n sz:Nat}(hi:i<n)(hj:j<sz):i*sz+j<n*sz:=by have:=nJ sz (Nat.succ_le_of_lt hi);rw[qX] at this;omega
theorem aeb {f:Nat->Nat->Value}{n sz i j:Nat}(hi:i<n)(hj:j<sz):((List.range (n*sz)).map fun q=>f (q/sz) (q% sz)).getD (i*sz+j) undef=f i j:=by
 have hlt:=mul_lt hi hj;have h1:(i*sz+j)/sz=i:=by rw[wB,Nat.mul_add_div RS,Nat.div_eq_of_lt hj,Nat.add_zero]
 have h2:(i*sz+j)% sz=j:=by rw[wB,Nat.mul_add_mod,Ee hj]
 simp[List.getD,hlt,h1,h2]
theorem Ld {P:Program}(w:World)(sz:Nat)(a:Option Addr):(Builtin.firstCells sz 0 (.slice a 0 0)).run P w= .ok #[] w:=by
 cases a with
 |none=>simp[Builtin.firstCells]|some a=>simpa using run_firstCells_some (P:=P) w sz 0 a 0 0 [] aB (fun j v hj=>by simp at hj)
theorem amH {c:Cap}{l:List V}{cx:Value}{sz:Nat}(h:Rel K T w (.ak c l) cx)(hs:og sz l=true):∃cells,Src E.P w sz l.length cx cells/\lJ K T w sz l cells:=by
 cases h with
 |gD _ a ha hc=>exact⟨[],⟨aB,fun w' _=>Ld w' sz a⟩,fun i hi=>absurd hi (fZ i)⟩
 |ak _ _ b o n cap val hle hn hcell hrel hc=>
  by_cases h0:l=[]
  .subst h0;refine⟨[],⟨aB,fun w' hw=>?_⟩,fun i hi=>absurd hi (fZ i)⟩;have:=run_firstCells_some (P:=E.P) w' sz 0 (at_ b o) 0 cap [] aB (fun j v hj=>by simp at hj);simpa using this
  .have hpos:0<l.length:=uS.2 h0;have amI:n=sz:=Vb hs hn hpos;subst amI;refine⟨(List.range (l.length*n)).map fun q=>val (q/n) (q% n),⟨aB,fun w' hw=>?_⟩,fun i hi=>⟨hn i hi,fun j hj=>?_⟩⟩
   .refine run_firstCells_some (P:=E.P) w' n l.length (at_ b o) l.length cap _ aB (fun j v hj=>?_);have hjl:j<l.length*n:=(by have:=(qx.1 hj).1;simpa using this);have hn0:0<n:=by
     rcases Nat.eq_zero_or_pos n with h|h
     .subst h;simp at hjl
     .exact h
    simp[hjl] at hj;subst hj;rw[addr_add];have:=(hcell (j/n) (j% n) (Nat.div_lt_of_lt_mul (by rw[wB];exact hjl)) (Nat.mod_lt _ hn0)).1;rw[cell_of_heap (w:=w) (by rw[hw])]
    rwa[oG,wB,Nat.div_add_mod] at this
   .rw[aeb hi hj];exact hrel i j hi hj
theorem aec {s:List UInt8}{cx:Value}{e:TypeId}(h:Rel K T w (.str s) cx):∃cells,Src E.P w 1 (s.map wF).length cx cells/\lJ K T w 1 (s.map wF) cells:=by
 let _:=e
 cases h with|str _ b hb=>
 have hl:s.length=b.size:=by rw[<-hb];simp
 refine⟨(b.data.map fun x=>Value.int .u8 x.toNat).toList,⟨by simp[hl],fun w' _=>?_⟩,fun i hi=>?_⟩
 .simp only[Builtin.firstCells,Sem.run_pure];congr 1;have:(b.extract 0 (s.map wF).length)=b:=by rw[eU,hl];simp
  rw[this]
 .have hi':i<s.length:=jH
  have hg:(s.map wF).getD i aJ=wF s[i]:=KN
  rw[hg];refine⟨rfl,fun j hj=>?_⟩;obtain rfl:j=0:=RS
  have hib:i<b.size:=RS
  have hv:((b.data.map fun x=>Value.int .u8 x.toNat).toList).getD (i*1+0) undef= .int .u8 s[i].toNat:=by
   have e1:s[i]=b.data[i]'(by simpa using hib):=by subst hb;simp
   simp[List.getD,hib,e1]
  rw[hv];exact .int _ _
theorem amJ (h:bG E B0 Z K w){loc:Loc}{s off len cap sz:Nat}{ag BU:Bool}{cs:List V}{cx:Value}(hx:Rel K Z.top w (.aU loc s off len cap sz BU) cx)(hcs:Z.dK loc s=some cs)(hle:off+len*sz<=cs.length)(hag:(ag||sz==1)=true)(hone:bY cs=true\/ag=true):
 ∃cells,Src E.P w sz ((chunks ag sz len (cs.drop off)).map er).length cx cells/\lJ K Z.top w sz ((chunks ag sz len (cs.drop off)).map er) cells:=by
 obtain⟨ho,hA,hks⟩:=h.wG hcs;obtain⟨_,kJ,_⟩:=h.obj _ _ _ ho;have hlen:((chunks ag sz len (cs.drop off)).map er).length=len:=by rw[eU,vg]
 rw[hlen];cases hx with
 |om=>exact⟨[],⟨aB,fun w' _=>by simp[Builtin.firstCells]⟩,fun i hi=>by rw[hlen] at hi;omega⟩
 |aU _ _ _ _ _ _ _ fq hA' hcc hlc hsz=>
  by_cases h0:len*sz=0
  .refine⟨[],⟨by simp[h0],fun w' _=>?_⟩,fun i hi=>?_⟩
   .have:=run_firstCells_some (P:=E.P) w' sz len (at_ (K.blk s) off) len fq [] (by simp[h0]) (fun j v hj=>by simp at hj);simpa using this
   .rw[hlen] at hi;have hsz0:sz=0:=by
     rcases Nat.mul_eq_zero.1 h0 with h|h
     .omega
     .exact h
    subst hsz0;have hag':ag=true:=(by simpa using hag);subst hag';refine⟨?_,fun j hj=>absurd hj (fZ j)⟩;have hi':i< (chunks true 0 len (cs.drop off)).length:=(by rw[vg];exact hi);have:((chunks true 0 len (cs.drop off)).map er).getD i aJ=er ((chunks true 0 len (cs.drop off)).getD i aJ):=KN;rw[this,Qo,Vd _ _ _ _ _ hi];simp[V.cells]
  .obtain⟨_,vals,t,g1,g2,g3,g4⟩:=kJ.2 (by rintro rfl;simp at hle;omega);refine⟨(List.range (len*sz)).map fun q=>vals.getD (off+q) undef,⟨aB,fun w' hw=>?_⟩,fun i hi=>?_⟩
   .refine run_firstCells_some (P:=E.P) w' sz len (at_ (K.blk s) off) len fq _ aB (fun j v hj=>?_);have hjl:j<len*sz:=(by have:=(qx.1 hj).1;simpa using this);simp only[List.getElem?_map,List.getElem?_range hjl,Option.map_some,iE] at hj;subst hj;rw[addr_add,cell_of_heap (w:=w) (by rw[hw])];simp[World.cell?,g1,show off+j<vals.size by omega]
   .rw[hlen] at hi;have hi':i< (chunks ag sz len (cs.drop off)).length:=(by rw[vg];exact hi);have hge:((chunks ag sz len (cs.drop off)).map er).getD i aJ=er ((chunks ag sz len (cs.drop off)).getD i aJ):=KN;rw[hge,Qo];have hcc:=Ve (cs:=cs.drop off) ag (n:=sz) (k:=len) (fun hf=>by subst hf;simpa using hag) dP (fun hf=>by
     rcases hone with h1|h1
     .simp only[bY,kU] at h1⊢;exact fun x hx=>h1 x (List.mem_of_mem_drop hx)
     .subst h1;cases hf) hi
    have hlt:i*sz+sz<=len*sz:=by
     have:=nJ sz (Nat.succ_le_of_lt hi)
     rwa[qX] at this
    refine⟨P6,fun j hj=>?_⟩;refine Vn P6 ?_;rw[hcc,rz _ hj,tQ,tQ];have hq:i*sz+j<len*sz:=RS;have:((List.range (len*sz)).map fun q=>vals.getD (off+q) undef).getD (i*sz+j) undef=vals.getD (off+(i*sz+j)) undef:=(by simp[List.getD,hq]);rw[this];exact g4 _ RS
structure za (P:Program)(w:World)(sz n:Nat)(tx:TypeId)(z cx:Value)(news:List Value):Prop where
 len:news.length=n*sz
 one:∀u∈news,u.oneCell'=true
 kind:(((∃e',P.underlying tx=some (.slice e'))\/P.underlying tx=some .string)/\(∀w',(Builtin.lenOf cx).run P w'= .ok n w')/\∀w',w'.heap=w.heap->(Builtin.firstCells sz n cx).run P w'= .ok news.toArray w')\/
  ((∃k k',P.underlying tx=some (.int k)/\cx= .int k' n)/\news=(Builtin.zeroCells z.cells n).toList/\z.cells.size=sz)
theorem aed (z:Array Value){n:Nat}(h:n*z.size=0):Builtin.zeroCells z n= #[]:=by simp[Builtin.zeroCells,h,Array.range_zero']
theorem aee {n:Nat}(h:n<=2^47):IntKind.i64.wrap (n:Int)=n:=Ac
theorem run_append_room' {P:Program}{w w':World}{t tx ty e:TypeId}{i:TypeInfo}{z:Value}{n sLen sCap:Nat}{cx:Value}{news:List Value}{base:Option Addr}(ht:P.underlying t=some (.slice e))(hi:P.info? e=some i)(hz:i.zero=some z)(hs:za P w i.size n tx z cx news)(hn:n<=2^47)(hb:n*i.bytes<=2^47)(hroom:sLen+n<=sCap)(h1:∀a,base=some a->(storeCells (a.add (sLen*i.size)) news).run P w= .ok () w')(h2:base=none->w'=w):(Builtin.append_ #[t,tx] ty #[.slice base sLen sCap,cx]).run P w= .ok (.slice base (sLen+n) sCap) w':=by
 rcases hs.kind with ⟨hk,hl,hc⟩| ⟨⟨k,k',hk,rfl⟩,hc,hzs⟩
 .have hc':=hc w rfl;cases base with
  |none=>rw[h2 rfl];rcases hk with ⟨e',hk⟩|hk<;>simp[Builtin.append_,run_underlying ht,run_underlying hk,Go.sizeOf,typeInfo,hi,hl,hroom,hc']
  |some a=>have hst:=h1 a rfl;rcases hk with ⟨e',hk⟩|hk<;>simp[Builtin.append_,run_underlying ht,run_underlying hk,Go.sizeOf,typeInfo,hi,hl,hroom,hc',hst]
 .have hw:=aee hn;have hb':¬(281474976710656< (n:Int)*(i.bytes:Int)):=by have:=Int.ofNat_le.2 hb;simp at this;omega
  have hneg:¬((n:Int)<0):=RS
  by_cases h0:n*i.size=0
  .have hnews:news=[]:=by rw[hc,aed _ (by rw[hzs];exact h0)]
   subst hnews;cases base with
   |none=>rw[h2 rfl];simp[Builtin.append_,run_underlying ht,run_underlying hk,Go.sizeOf,typeInfo,hi,hroom,asInt,asIntOf,hw,hb',hneg,h0]|some a=>have hst:=h1 a rfl;simp[Builtin.append_,run_underlying ht,run_underlying hk,Go.sizeOf,typeInfo,hi,hroom,asInt,asIntOf,hw,hb',hneg,h0,hst]
  .cases base with
   |none=>rw[h2 rfl];simp[Builtin.append_,run_underlying ht,run_underlying hk,Go.sizeOf,typeInfo,zeroValue,hi,hz,hroom,asInt,asIntOf,hw,hb',hneg]|some a=>have hst:=h1 a rfl;rw[hc] at hst;simp[Builtin.append_,run_underlying ht,run_underlying hk,Go.sizeOf,typeInfo,zeroValue,hi,hz,hroom,asInt,asIntOf,hw,hb',hneg,h0,hst]
theorem run_append_grow' {P:Program}{w:World}{t tx ty e:TypeId}{i:TypeInfo}{z:Value}{n sLen sCap:Nat}{cx:Value}{olds news:List Value}{base:Option Addr}(ht:P.underlying t=some (.slice e))(hi:P.info? e=some i)(hz:i.zero=some z)(hs:za P w i.size n tx z cx news)(hold:∀w',w'.heap=w.heap->(Builtin.firstCells i.size sLen (.slice base sLen sCap)).run P w'= .ok olds.toArray w')(hn:sLen+n<=2^47)(hb:(sLen+n)*i.bytes<=2^47)(hroom:sCap<sLen+n):(Builtin.append_ #[t,tx] ty #[.slice base sLen sCap,cx]).run P w= .ok (.slice (some ⟨w.heap.size,0,none⟩) (sLen+n) (grownCap w (sLen+n) sCap e)) (w.drew.alloc (.cells ((olds++news).toArray++Builtin.zeroCells z.cells (grownCap w (sLen+n) sCap e-(sLen+n))) e)):=by
 have hnr:¬(sLen+n<=sCap):=RS
 have h63:¬(9223372036854775807< ((sLen:Int)+(n:Int))):=RS
 have h48:¬(281474976710656<Builtin.nextslicecap (sLen+n) sCap*i.bytes):=by have:=growslice_fits (bytes:=i.bytes) hroom RS;omega
 have hold':=hold w.drew rfl;have aAH:(olds++news).toArray=olds.toArray++news.toArray:=aB
 rcases hs.kind with ⟨hk,hl,hc⟩| ⟨⟨k,k',hk,rfl⟩,hc,hzs⟩
 .have hc':=hc w.drew rfl;rcases hk with ⟨e',hk⟩|hk<;>
   (simp[Builtin.append_,run_underlying ht,run_underlying hk,Go.sizeOf,typeInfo,zeroValue,hi,hz,hl,hnr,h63,h48,Question.forced,hc',hold',newRow,grownCap]
    congr 2;apply Array.ext';simp[eZ])
 .have hw:=aee (n:=n) RS;have hnb:n*i.bytes<=2^47:=eO (nJ _ RS) hb;have hb':¬(281474976710656< (n:Int)*(i.bytes:Int)):=by have:=Int.ofNat_le.2 hnb;simp at this;omega
  have hneg:¬((n:Int)<0):=RS
  by_cases h0:n*i.size=0
  .have hnews:news=[]:=by rw[hc,aed _ (by rw[hzs];exact h0)]
   subst hnews;simp[Builtin.append_,run_underlying ht,run_underlying hk,Go.sizeOf,typeInfo,zeroValue,hi,hz,hnr,h63,h48,Question.forced,asInt,asIntOf,hw,hb',hneg,h0,hold',newRow,grownCap]
  .subst hc;simp[Builtin.append_,run_underlying ht,run_underlying hk,Go.sizeOf,typeInfo,zeroValue,hi,hz,hnr,h63,h48,Question.forced,asInt,asIntOf,hw,hb',hneg,h0,hold',newRow,grownCap];congr 2;apply Array.ext';simp[eZ]
end
section
variable {E:Env}{B0:Nat}{Z:ah}{K:bq}{w:World}{new:Nat->Prop}{T:Nat->Nat}
theorem Step.imp {new new' Z' K' w'}(h:Step E B0 new Z K w Z' K' w')(hn:∀s,new s->K.A s\/new' s):Step E B0 new' Z K w Z' K' w':=
 ⟨h.ok,h.ext,h.below,h.D,fun s hs=>(h.A s hs).elim .inl (hn s),h.y8,h.y9⟩
theorem aef {sz:Nat}{l ys:List V}{olds news:List Value}(h:lJ K T w sz l olds)(g:lJ K T w sz ys news)(hl:olds.length=l.length*sz):lJ K T w sz (l++ys) (olds++news):=by
 intro i hi;by_cases h1:i<l.length
 .rw[rA h1];refine⟨(h i h1).1,fun j hj=>?_⟩;have:=mul_lt h1 hj;rw[rA RS];exact(h i h1).2 j hj
 .have h1':l.length<=i:=Nat.not_lt.1 h1;have h2:i-l.length<ys.length:=KO
  rw[rC h1'];refine⟨(g _ h2).1,fun j hj=>?_⟩;have hm:i*sz=(i-l.length)*sz+l.length*sz:=by rw[<-qy];congr 1;omega
  rw[rC RS,show i*sz+j-olds.length=(i-l.length)*sz+j by omega];exact(g _ h2).2 j hj
theorem Vo {sz:Nat}{ys:List V}{news:List Value}(h:lJ K T w sz ys news)(hl:news.length=ys.length*sz)(hone:ys.all (fun v=>bY v.cells)=true):∀u∈news,u.oneCell'=true:=by
 intro u hu;obtain⟨q,hq,rfl⟩:=Gj.1 hu;have hsz:0<sz:=by
  rcases Nat.eq_zero_or_pos sz with h0|h0
  .subst h0;omega
  .exact h0
 have hi:q/sz<ys.length:=Nat.div_lt_of_lt_mul (by rw[wB];omega);have hj:=Nat.mod_lt q hsz;obtain⟨h1,h2⟩:=h _ hi;have hr:=h2 _ hj;rw[wB,Nat.div_add_mod,kD hq] at hr;simp only[kU,bY] at hone;have h3:=hone _ (lX hi);rw[kD hi] at h1 hr;have h4:=h3 _ (lX (show q% sz<_ by omega));rw[kD RS] at hr;simpa using (adS hr h4).1
theorem amK (h:bG E B0 Z K w){ag:Bool}{sz n:Nat}{tx e:TypeId}{z:V}{y:V}{cy cz:Value}{ys:List V}{zeros:Bool}(hy:Rel K Z.top w y cy)(hz:Rel K Z.top w z cz)(hraw:fC z=true)(hzl:z.cells.length=sz)(hag:(ag||sz==1)=true)(hk:zeros=true->∃k,E.P.underlying tx=some (.int k))(hk':zeros=false->(∃e',E.P.underlying tx=some (.slice e'))\/E.P.underlying tx=some .string)(hzi:zeros=yZ y)(hv:mU Z ag sz z y=some ys)(hone:ys.all (fun v=>bY v.cells)=true)(hn:n=ys.length):∃news,za E.P w sz n tx cz cy news/\lJ K Z.top w sz ys news:=by
 subst hn;let _:=e
 have fin:∀cells,Src E.P w sz ys.length cy cells->(∀w',(Builtin.lenOf cy).run E.P w'= .ok ys.length w')->zeros=false->lJ K Z.top w sz ys cells->∃news,za E.P w sz ys.length tx cz cy news/\lJ K Z.top w sz ys news:=
  fun cells hs hl amL hr=>⟨cells,⟨hs.1,Vo hr hs.1 hone,.inl ⟨hk' amL,hl,hs.2⟩⟩,hr⟩
 cases y with
 |int k m=>
  simp only[mU] at hv;split at hv
  .rename_i hm;simp only[iE] at hv;subst hv;cases hy;obtain⟨k',hk0⟩:=hk hzi;have hr:=Vl hz hraw hzl m.toNat;have hcs:cz.cells.size=sz:=by rw[<-(BQ hz hraw).1,hzl]
   have hzc:Builtin.zeroCells cz.cells m.toNat=(Array.range (m.toNat*sz)).map fun i=>cz.cells[i% cz.cells.size]! :=by unfold Builtin.zeroCells;rw[hcs]
   have hlen:(List.replicate m.toNat z).length=m.toNat:=List.length_replicate;have hrc:lJ K Z.top w sz (List.replicate m.toNat z) (Builtin.zeroCells cz.cells m.toNat).toList:=by intro i hi;rw[hlen] at hi;have hg:(List.replicate m.toNat z).getD i aJ=z:=(by simp[List.getD,hi]);rw[hg];refine⟨hzl,fun j hj=>?_⟩;have hq:=mul_lt hi hj;have:=hr.2 (i*sz+j) (by simp[hzl];exact hq);have hm:(i*sz+j)% sz=j:=(by rw[wB,Nat.mul_add_mod,Ee hj]);rw[Vk z.cells sz hzl RS _ _ hq,hm] at this;rw[hzc,Qm];exact this
   have hnl:(Builtin.zeroCells cz.cells m.toNat).toList.length=m.toNat*sz:=by rw[hzc];simp
   refine⟨_,⟨by rw[hlen];exact hnl,Vo hrc (by rw[hlen];exact hnl) hone,.inr ⟨⟨k',k,hk0,?_⟩,by rw[hlen],hcs⟩⟩,hrc⟩;rw[hlen,Gl hm.1]
  .simp at hv
 |ak c l=>
  simp only[mU] at hv;split at hv
  .rename_i hs;simp only[iE] at hv;subst hv;obtain⟨cells,h1,h2⟩:=amH (E:=E) hy hs;refine fin cells h1 (fun w'=>?_) hzi h2;cases hy<;>rfl
  .simp at hv
 |str s=>
  simp only[mU] at hv;split at hv
  .rename_i hs;simp only[iE] at hv;subst hv;subst hs;obtain⟨cells,h1,h2⟩:=aec (E:=E) (e:=e) hy;refine fin cells h1 (fun w'=>?_) hzi h2;cases hy with|str _ b hb=>
   subst hb;simp[Builtin.lenOf]
  .simp at hv
 |aU loc s off len cap bD BU=>
  simp only[mU] at hv;split at hv
  .simp at hv
  .rename_i he;have he:bD=sz:=by simpa using he
   subst he;simp only[iR] at hv;obtain⟨cs,hcs,hv⟩:=hv;split at hv
   .rename_i hc;simp only[iE] at hv;subst hv;obtain⟨cells,h1,h2⟩:=amJ h hy hcs hc.1 hag hc.2;refine fin cells h1 (fun w'=>?_) hzi h2;rw[eU,vg];cases hy<;>rfl
   .simp at hv
 |_=>simp[mU] at hv
theorem Step.aeg {E B0 Z K w}(h:bG E B0 Z K w)(s T' b lo:Nat)(hs:¬K.A s):
 Step E B0 (· =s) Z K w (Z.dY s T') {K with A:=fun x=>K.A x\/x=s,ob:=upd K.ob s b,lo:=upd K.lo s lo,hi:=upd K.hi s lo} w:=by
 have hne:∀x,K.A x->x≠s:=fun x hx e=>hs (e▸hx);have e:Ext K Z.top w {K with A:=fun x=>K.A x\/x=s,ob:=upd K.ob s b,lo:=upd K.lo s lo,hi:=upd K.hi s lo} (Z.dY s T').top w:=
  ⟨fun _ h=>⟨.inl h,rfl,rfl,rfl⟩,fun x hx=>.inl ⟨upd_ne _ _ (hne x hx),upd_ne _ _ (hne x hx),upd_ne _ _ (hne x hx),upd_ne _ _ (hne x hx)⟩,fun b i hi=>⟨hi,rfl⟩,fun b hb=>⟨hb,rfl⟩⟩
 refine⟨?_,e,.refl _ _,fun b hb=>hb,fun _ h=>h,fun b o hi=>.inl hi,fun _ h=>.inl h⟩;refine⟨fun loc x ob hx=>?_,fun x hx hlt=>?_,h.I,h.IM,fun l r hl=>?_,fun g cs hg=>(h.glob g cs hg).ext e,h.rb,h.D⟩
 .obtain⟨a1,a2,a3⟩:=h.obj loc x ob hx;exact⟨.inl a1,a2.ext e a1 (fun _=>rfl),a3⟩
 .by_cases hxs:x=s
  .subst hxs;simp only[upd_same] at hlt;omega
  .simp only[upd_ne _ _ hxs] at hlt;have:=h.own x (hx.resolve_right hxs) hlt;exact⟨by simpa only[upd_ne _ _ hxs] using this.1,by simpa only[upd_ne _ _ hxs] using this.2.1,
    fun o p q=>by simpa only[upd_ne _ _ hxs] using this.2.2 o (by simpa only[upd_ne _ _ hxs] using p) (by simpa only[upd_ne _ _ hxs] using q)⟩
 .obtain⟨a1,a2⟩:=h.loop l r hl;exact⟨.inl a1,a2.ext e a1 rfl rfl⟩
theorem bG.drew (h:bG E B0 Z K w):bG E B0 Z K w.drew:=h.same rfl
theorem Step.draw (h:bG E B0 Z K w):Step E B0 new Z K w Z K w.drew:=Step.same h rfl rfl rfl rfl
theorem aeh {olds news:List Value}{zs:Array Value}{q:Nat}(hq:q< (olds++news).length):((olds++news).toArray++zs).getD q undef=(olds++news).getD q undef:=by
 have:q< ((olds++news).toArray++zs).size:=by simp at hq⊢;omega
 have hl:q< (olds++news).toArray.size:=by simpa using hq
 simp only[Array.getD,this,dif_pos];show ((olds++news).toArray++zs)[q]=_;rw[Array.getElem_append_left hl,kD hq];simp
theorem Qp (h:bG E B0 Z K w)(hB:B0<=w.heap.size){t tx ty e:TypeId}{i:TypeInfo}{z:Value}{n sLen sCap s:Nat}{cx:Value}{olds news:List Value}{base:Option Addr}{l ys:List V}(ht:E.P.underlying t=some (.slice e))(hi:E.P.info? e=some i)(hz:i.zero=some z)(hzs:z.cells.size=i.size)(hl:sLen=l.length)(hn:n=ys.length)(hs:za E.P w i.size n tx z cx news)(hold:∀w',w'.heap=w.heap->(Builtin.firstCells i.size sLen (.slice base sLen sCap)).run E.P w'= .ok olds.toArray w')(hol:olds.length=sLen*i.size)(h47:sLen+n<=2^47)(hb:(sLen+n)*i.bytes<=2^47)(hroom:sCap<sLen+n)(rl:lJ K Z.top w i.size l olds)(ry:lJ K Z.top w i.size ys news)(hst:¬K.A s\/Z.top s<sLen+n):
 Done E B0 (· =s) Z K w (Builtin.append_ #[t,tx] ty #[.slice base sLen sCap,cx]) (.ak (.own i.size s) (l++ys)) (Z.dY s (sLen+n)):=by
 have hrun:=run_append_grow' (ty:=ty) ht hi hz hs hold h47 hb hroom;have hge:=grownCap_ge w (sLen+n) sCap e;generalize grownCap w (sLen+n) sCap e=nc at hrun hge;have hlen:(olds++news).length=(sLen+n)*i.size:=by rw[iP,hol,hs.len,qy]
 have hvs:((olds++news).toArray++Builtin.zeroCells z.cells (nc-(sLen+n))).size=nc*i.size:=by
  rw[Array.size_append];have:(olds++news).toArray.size=(sLen+n)*i.size:=by simpa using hlen
  rw[this];simp only[Builtin.zeroCells,Array.size_map,Array.size_range,hzs];rw[<-qy];congr 1;omega
 have hlo:(sLen+n)*i.size<=((olds++news).toArray++Builtin.zeroCells z.cells (nc-(sLen+n))).size:=by rw[hvs];exact nJ _ hge
 have hstep:=(Step.draw (new:=(· =s)) h).trans (Step.amd (w:=w.drew) h.drew hB s (sLen+n) hst ((olds++news).toArray++Builtin.zeroCells z.cells (nc-(sLen+n))) e ((sLen+n)*i.size) hlo);have hll:(l++ys).length=sLen+n:=by rw[iP,hl,hn]
 have rc:=(aef rl ry (by rw[hol,hl])).ext hstep.ext;refine⟨_,_,_,hrun,?_,hstep⟩;have key:Rel (K.BP s w.drew.heap.size ((sLen+n)*i.size) ((olds++news).toArray++Builtin.zeroCells z.cells (nc-(sLen+n))).size) (Z.dY s (sLen+n)).top
  (w.drew.alloc (.cells ((olds++news).toArray++Builtin.zeroCells z.cells (nc-(sLen+n))) e)) (.ak (.own i.size s) (l++ys)) (.slice (some (at_ w.heap.size 0)) (l++ys).length nc):=by
  refine .ak _ _ w.heap.size 0 i.size nc (fun p q=>(olds++news).getD (p*i.size+q) undef) RS (fun p hp=>(rc p hp).1) (fun p q hp hq=>?_) (fun p q hp hq=>(rc p hp).2 q hq) ?_
  .have hpq:=mul_lt (hll▸hp) hq;refine⟨?_,.inr ⟨rfl,RS⟩⟩;have:=K6 (w:=w.drew) (vals:=(olds++news).toArray++Builtin.zeroCells z.cells (nc-(sLen+n))) (t:=e) (fz:=(0,0)) (i:=p*i.size+q) RS;rw[aeh RS] at this;rw[nX];exact this
  .refine⟨rfl,.inr rfl,?_,fun _=>⟨?_,?_,?_⟩⟩
   .show _<=upd Z.top s _ s;rw[upd_same,hll];exact mF _
   .show upd K.ob s _ s=_;rw[upd_same];rfl
   .show upd K.lo s _ s=_;rw[upd_same,hll,nX]
   .show upd K.hi s _ s=_;rw[upd_same,hvs,nX]
 rw[hll] at key;exact key
theorem amM (b o:Nat)(v:Value)(w:World):Only b w (w.setCell ⟨b,o,none⟩ v):=
 ⟨rfl,rfl,rfl,by simp[World.setCell],fun k hk _=>by simp[World.setCell,Array.getElem?_modify,Ne.symm hk]⟩
theorem Only.trans {b:Nat}{w w1 w2:World}(h:Only b w w1)(g:Only b w1 w2):Only b w w2:=
 ⟨g.os.trans h.os,g.tape.trans h.tape,g.output.trans h.output,eO h.size g.size,fun k hk hl=>(g.block k hk (lW hl h.size)).trans (h.block k hk hl)⟩
theorem aei (b:Nat):∀(vs:List Value)(o:Nat)(w:World),Only b w (w.setCells b o vs)
 | [],_,_=>⟨rfl,rfl,rfl,mF _,fun _ _ _=>rfl⟩
 |v::r,o,w=>(amM b o v w).trans (aei b r (o+1) _)
theorem amN (h:bG E B0 Z K w)(hB:B0<=w.heap.size){t tx ty e:TypeId}{i:TypeInfo}{z:Value}{b o cap s:Nat}{cx:Value}{news:List Value}{l ys:List V}(ht:E.P.underlying t=some (.slice e))(hi:E.P.info? e=some i)(hz:i.zero=some z)(hsz:0<i.size)(hys:ys≠[])(hx:Rel K Z.top w (.ak (.own i.size s) l) (.slice (some (at_ b o)) l.length cap))(hhead:og i.size l=true)(hs:za E.P w i.size ys.length tx z cx news)(h47:ys.length<=2^47)(hb:ys.length*i.bytes<=2^47)(hroom:l.length+ys.length<=cap)(ry:lJ K Z.top w i.size ys news)(hT:Z.top s=l.length):
 Done E B0 new Z K w (Builtin.append_ #[t,tx] ty #[.slice (some (at_ b o)) l.length cap,cx]) (.ak (.own i.size s) (l++ys)) (Z.dY s (l.length+ys.length)):=by
 have hyl:0<ys.length:=uS.2 hys;have hnl:0<news.length:=by rw[hs.len];exact Nat.mul_pos hyl hsz
 generalize hgl:l.length=ln at hx;cases hx with
 |gD _ a ha hc=>omega|ak _ _ _ _ n _ val hle hn hcell hrel hc=>
 obtain⟨hc1,hA,_,hc2⟩:=hc;obtain⟨c1,c2,c3⟩:=hc2 hT.symm;subst hc1;have hsum:(l.length+ys.length)*i.size=l.length*i.size+ys.length*i.size:=qy _ _ _;have aAI:=nJ i.size hroom;have hlt:K.lo s<K.hi s:=by rw[c2,c3];have:=hs.len;omega
 obtain⟨o1,o2,o3⟩:=h.own s hA hlt;have Qq:∀j,j<news.length->(∃v,w.cell? (at_ b (o+l.length*i.size+j))=some v)/\w.frozen? (at_ b (o+l.length*i.size+j))=false:=by intro j hj;have:=o3 (o+l.length*i.size+j) RS (by have:=hs.len;omega);rw[c1] at this;exact this.2
 have hst:=run_storeCells_cells (P:=E.P) b (o+l.length*i.size) news 0 w (fun j hj=>by obtain⟨v,hv⟩:=(Qq j hj).1;rw[Nat.add_zero,hv];rfl) (fun j hj=>by rw[Nat.add_zero];exact(Qq j hj).2) hs.one;simp only[Nat.add_zero] at hst;have hrun:=run_append_room' (ty:=ty) (sLen:=l.length) (base:=some (at_ b o)) (w':=w.setCells b (o+l.length*i.size) news) ht hi hz hs h47 hb hroom (fun a ha=>by simp only[iE] at ha;subst ha;rw[addr_add];exact hst) (fun hn=>by cases hn);have hstep:=Step.Et (new:=new) h hB (s:=s) (n:=news.length) (T':=l.length+ys.length) (w':=w.setCells b (o+l.length*i.size) news) hA RS hnl (by rw[c2,c3,hs.len];omega) (by rw[c1];exact aei b news _ w)
  (fun q h1 h2=>by rw[c1];have:=World.cell?_setCells_in b news (o+l.length*i.size) w (fun j hj=>by obtain⟨v,hv⟩:=(Qq j hj).1;rw[hv];rfl) (q-(o+l.length*i.size)) RS;rw[show o+l.length*i.size+(q-(o+l.length*i.size))=q by omega] at this;exact⟨_,this⟩)
  (fun q hq=>by rw[c1];exact World.cell?_setCells_out b news _ w _ (fun _ _=>by show q<_\/_<=q;omega))
  (fun q=>World.frozen?_setCells b news _ w _)
 refine⟨_,_,_,hrun,?_,hstep⟩;have hll:(l++ys).length=l.length+ys.length:=iP;have key:Rel (K.Et s news.length) (Z.dY s (l.length+ys.length)).top (w.setCells b (o+l.length*i.size) news) (.ak (.own i.size s) (l++ys)) (.slice (some (at_ b o)) (l++ys).length cap):=by
  refine .ak _ _ b o i.size cap (fun p q=>if p<l.length then val p q else news.getD ((p-l.length)*i.size+q) undef) RS (fun p hp=>?_) (fun p q hp hq=>?_) (fun p q hp hq=>?_) ?_
  .by_cases h1:p<l.length
   .rw[rA h1];exact hn p h1
   .rw[rC (Nat.not_lt.1 h1)];exact(ry _ RS).1
  .by_cases h1:p<l.length
   .obtain⟨g1,g2⟩:=hcell p q h1 hq;obtain⟨e1,e2⟩:=hstep.ext.I _ _ g2;simp only[h1,if_true];exact⟨e2.trans g1,e1⟩
   .have h2:p-l.length<ys.length:=RS;have hpq:=mul_lt h2 hq;have hm:p*i.size=(p-l.length)*i.size+l.length*i.size:=(by rw[<-qy];congr 1;omega);simp only[h1,if_false];refine⟨?_,.inr ⟨c1.symm,RS,by have:=hs.len;omega⟩⟩;have hlt':(p-l.length)*i.size+q<news.length:=(by rw[hs.len];exact hpq);have:=World.cell?_setCells_in b news (o+l.length*i.size) w (fun j hj=>by obtain⟨v,hv⟩:=(Qq j hj).1;rw[hv];rfl) ((p-l.length)*i.size+q) hlt';rw[kD hlt',<-this];congr 2;omega
  .by_cases h1:p<l.length
   .rw[rA h1];simp only[h1,if_true];exact(hrel p q h1 hq).ext hstep.ext
   .rw[rC (Nat.not_lt.1 h1)];simp only[h1,if_false];exact((ry _ RS).2 q hq).ext hstep.ext
  .refine⟨rfl,hA,?_,fun _=>⟨c1,?_,?_⟩⟩
   .show _<=upd Z.top s _ s;rw[upd_same,hll];exact mF _
   .show upd K.lo s _ s=_;rw[upd_same,hll,c2,hs.len];omega
   .exact c3
 rw[hll] at key;exact key
end
section
variable {E:Env}{B0:Nat}{Z:ah}{K:bq}{w:World}{new:Nat->Prop}{T:Nat->Nat}
theorem GJ {c:Cap}{l:List V}{cx:Value}{sz:Nat}(hx:Rel K T w (.ak c l) cx)(hs:og sz l=true)(hc:∀n s,c= .own n s->n=sz):(∃a,cx= .slice a 0 0/\(c= .nil->a=none)/\l=[]/\K3 K T c)\/∃(b o cap:Nat) (val:Nat->Nat->Value),cx= .slice (some (at_ b o)) l.length cap/\l.length<=cap/\(∀i,i<l.length->(l.getD i aJ).cells.length=sz)/\ (∀i j,i<l.length->j<sz->w.cell? (at_ b (o+i*sz+j))=some (val i j)/\K.I b (o+i*sz+j))/\ (∀i j,i<l.length->j<sz->Rel K T w ((l.getD i aJ).cells.getD j aJ) (val i j))/\tL K T c sz b o l.length cap:=by
 cases hx with
 |gD _ a ha hcn=>exact .inl ⟨a,rfl,ha,rfl,hcn⟩|ak _ _ b o n cap val hle hn hcell hrel hcap=>
  right;by_cases h0:l=[]
  .subst h0;refine⟨b,o,cap,val,rfl,hle,fun i hi=>absurd hi (fZ i),fun i j hi=>absurd hi (fZ i),fun i j hi=>absurd hi (fZ i),?_⟩;cases c with
   |own n' s=>have h1:=hc n' s rfl;have h2:=hcap.1;have:n=sz:=RS;rw[<-this];exact hcap|sh=>trivial|full=>exact hcap|nil=>exact hcap
  .obtain rfl:=Vb hs hn (uS.2 h0);exact⟨b,o,cap,val,rfl,hle,hn,hcell,hrel,hcap⟩
theorem amO {P:Program}{e:TypeId}{sz bs:Nat}{z:V}(h1:dF P e=some sz)(h2:wD P e=some bs)(h3:iM P e=some z):∃i cz,P.info? e=some i/\i.size=sz/\i.bytes=bs/\i.zero=some cz/\ofValue cz=some z:=by unfold dF at h1;unfold wD at h2;unfold iM at h3;simp only[aW,iR] at h1 h2 h3;obtain⟨i,hi,e1⟩:=h1;obtain⟨i',hi',e2⟩:=h2;obtain⟨cz,⟨aAJ,Qr,e3⟩,e4⟩:=h3;rw[hi] at hi' Qr;cases hi';cases Qr;exact⟨i,cz,hi,e1,e2,e3,e4⟩
theorem GK {sz n cap:Nat}{b o:Nat}{val:Nat->Nat->Value}(hcell:∀i j,i<n->j<sz->w.cell? (at_ b (o+i*sz+j))=some (val i j))(w':World)(hw:w'.heap=w.heap):(Builtin.firstCells sz n (.slice (some (at_ b o)) n cap)).run E.P w'= .ok ((List.range (n*sz)).map fun q=>val (q/sz) (q% sz)).toArray w':=by
 refine run_firstCells_some (P:=E.P) w' sz n (at_ b o) n cap _ aB (fun j v hj=>?_);have hjl:j<n*sz:=by have:=(qx.1 hj).1;simpa using this
 have hn0:0<sz:=by
  rcases Nat.eq_zero_or_pos sz with h|h
  .subst h;simp at hjl
  .exact h
 simp[hjl] at hj;subst hj;rw[addr_add];have:=hcell (j/sz) (j% sz) (Nat.div_lt_of_lt_mul (by rw[wB];exact hjl)) (Nat.mod_lt _ hn0);rw[cell_of_heap (w:=w) (by rw[hw])]
 rwa[oG,wB,Nat.div_add_mod] at this
theorem Qs {l:List V}{sz:Nat}{val:Nat->Nat->Value}(hn:∀i,i<l.length->(l.getD i aJ).cells.length=sz)(hrel:∀i j,i<l.length->j<sz->Rel K T w ((l.getD i aJ).cells.getD j aJ) (val i j)):
 lJ K T w sz l ((List.range (l.length*sz)).map fun q=>val (q/sz) (q% sz)):=
 fun i hi=>⟨hn i hi,fun j hj=>by rw[aeb hi hj];exact hrel i j hi hj⟩
theorem BX {t tx ty e:TypeId}{i:TypeInfo}{z cx:Value}{news:List Value}{n sLen sCap:Nat}{base:Option Addr}(ht:E.P.underlying t=some (.slice e))(hi:E.P.info? e=some i)(hz:i.zero=some z)(hs:za E.P w i.size n tx z cx news)(hn:n=0)(hle:sLen<=sCap):(Builtin.append_ #[t,tx] ty #[.slice base sLen sCap,cx]).run E.P w= .ok (.slice base sLen sCap) w:=by
 subst hn;have h0:news=[]:=lF (by rw[hs.len];simp);subst h0;exact run_append_room' (w':=w) (base:=base) ht hi hz hs RS aB RS (fun a _=>rfl) (fun _=>rfl)
theorem amP (s n:Nat)(h:Z.top s=n):Z.dY s n=Z:=by
 unfold ah.dY;have:upd Z.top s n=Z.top:=by
  funext x;unfold upd;split
  .rename_i hx;rw[hx,h]
  .rfl
 rw[this]
theorem amQ (h:bG E B0 Z K w)(hB:B0<=w.heap.size){t tx ty e:TypeId}{i:TypeInfo}{z:Value}{st:Nat}{c:Cap}{l ys:List V}{cx cy:Value}{news:List Value}{v:V}{Z':ah}(ht:E.P.underlying t=some (.slice e))(hi:E.P.info? e=some i)(hz:i.zero=some z)(hzs:z.cells.size=i.size)(hsz:0<i.size)(hst:¬K.A st)(hx:Rel K Z.top w (.ak c l) cx)(hs:za E.P w i.size ys.length tx z cy news)(ry:lJ K Z.top w i.size ys news)(h47:l.length+ys.length<=2^47)(hb:(l.length+ys.length)*i.bytes<=2^47)(hhead:og i.size l=true)(hv:(match c with
   |.own n s=>if n=i.size/\Z.top s=l.length then some (.ak (.own n s) (l++ys),Z.dY s (l.length+ys.length)) else none|.nil|.full=>some (.ak (.own i.size st) (l++ys),Z.dY st (l.length+ys.length))|.sh=>none)=some (v,Z')):
 Done E B0 (· =st) Z K w (Builtin.append_ #[t,tx] ty #[cx,cy]) v Z':=by
 have hb':ys.length*i.bytes<=2^47:=eO (nJ _ (Nat.le_add_left _ _)) hb;have imp:∀{s:Nat}{m:Sem Value}{v:V}{Z':ah},K.A s->Done E B0 (· =s) Z K w m v Z'->Done E B0 (· =st) Z K w m v Z':=by rintro s m v Z' hA ⟨a,b,c,d,e,f⟩;exact⟨a,b,c,d,e,f.imp fun x hx=>.inl (hx▸hA)⟩
 have fresh:∀cx,Rel K Z.top w (.ak .full l) cx\/(∃a,cx= .slice a 0 0/\l=[])->Done E B0 (· =st) Z K w (Builtin.append_ #[t,tx] ty #[cx,cy]) (.ak (.own i.size st) (l++ys)) (Z.dY st (l.length+ys.length)):=by
  intro cx hx;have hx':(∃a,cx= .slice a 0 0/\l=[])\/∃(b o:Nat) (val:Nat->Nat->Value),cx= .slice (some (at_ b o)) l.length l.length/\(∀p,p<l.length->(l.getD p aJ).cells.length=i.size)/\
   (∀p j,p<l.length->j<i.size->w.cell? (at_ b (o+p*i.size+j))=some (val p j)/\K.I b (o+p*i.size+j))/\
   (∀p j,p<l.length->j<i.size->Rel K Z.top w ((l.getD p aJ).cells.getD j aJ) (val p j)):=by
   rcases hx with hx|hx
   .rcases GJ hx hhead (fun n s hh=>by cases hh) with ⟨a,h1,_,h2,_⟩| ⟨b,o,cap,val,h1,h2,h3,h4,h5,h6⟩
    .exact .inl ⟨a,h1,h2⟩
    .have h6:cap=l.length:=h6;subst h6;exact .inr ⟨b,o,val,h1,h3,h4,h5⟩
   .exact .inl hx
  rcases hx' with ⟨a,rfl,rfl⟩| ⟨b,o,val,rfl,h3,h4,h5⟩
  .by_cases hys:ys=[]
   .subst hys;have hrun:=BX (ty:=ty) (base:=a) (sLen:=0) (sCap:=0) ht hi hz hs rfl (mF _);have hstep:=Step.aeg h st 0 0 0 hst;refine⟨_,_,_,hrun,?_,hstep⟩;exact .gD _ a (fun h=>bU) ⟨Or.inr rfl,fun _=>by simp only[upd_same]⟩
   .have hl:0<ys.length:=uS.2 hys;have:=Qp (ty:=ty) (base:=a) (olds:=[]) (l:=[]) (sLen:=0) (sCap:=0) h hB ht hi hz hzs rfl rfl hs (fun w' _=>Ld w' i.size a) aB (by simpa using h47) Gg RS (fun p hp=>absurd hp (fZ p)) ry (.inl hst);simpa using this
  .by_cases hys:ys=[]
   .subst hys;have hrun:=BX (ty:=ty) (base:=some (at_ b o)) (sLen:=l.length) (sCap:=l.length) ht hi hz hs rfl (mF _);have hstep:=Step.aeg h st (l.length+0) b (o+l.length*i.size) hst;refine⟨_,_,_,hrun,?_,hstep⟩;rw[iV];refine .ak _ _ b o i.size l.length val (mF _) h3 (fun p j hp hj=>h4 p j hp hj) (fun p j hp hj=>(h5 p j hp hj).ext hstep.ext) ⟨rfl,.inr rfl,?_,fun _=>⟨?_,?_,?_⟩⟩
    .show _<=upd Z.top st _ st;rw[upd_same];exact mF _
    .exact upd_same _ _ _
    .exact upd_same _ _ _
    .exact upd_same _ _ _
   .have hl:0<ys.length:=uS.2 hys;exact Qp (ty:=ty) (base:=some (at_ b o)) h hB ht hi hz hzs rfl rfl hs (fun w' hw=>GK (fun p j hp hj=>(h4 p j hp hj).1) w' hw) aB h47 hb RS (Qs h3 h5) ry (.inl hst)
 cases c with
 |sh=>simp at hv|nil=>
  simp only[iE,aS] at hv;obtain⟨rfl,rfl⟩:=hv;refine fresh cx (.inr ?_);cases hx with
  |gD _ a ha _=>exact⟨a,rfl,rfl⟩|ak _ _ _ _ _ _ _ _ _ _ _ hc=>exact hc.elim
 |full=>simp only[iE,aS] at hv;obtain⟨rfl,rfl⟩:=hv;exact fresh cx (.inl hx)
 |own n s=>
  simp only at hv;split at hv
  .rename_i hc;obtain⟨rfl,hT⟩:=hc;simp only[iE,aS] at hv;obtain⟨rfl,rfl⟩:=hv;by_cases hys:ys=[]
   .subst hys;have e1:Z.dY s (l.length+([]:List V).length)=Z:=amP s _ hT;rw[e1,iV];rcases GJ hx hhead (fun n s hh=>by cases hh;rfl) with ⟨a,rfl,_,rfl,_⟩| ⟨b,o,cap,val,rfl,h2,_⟩
    .exact⟨_,_,_,BX (ty:=ty) (base:=a) (sLen:=0) (sCap:=0) ht hi hz hs rfl (mF _),hx,.refl h⟩
    .exact⟨_,_,_,BX (ty:=ty) (base:=some (at_ b o)) ht hi hz hs rfl h2,hx,.refl h⟩
   .have hl:0<ys.length:=uS.2 hys;rcases GJ hx hhead (fun n s hh=>by cases hh;rfl) with ⟨a,rfl,_,rfl,hcn⟩| ⟨b,o,cap,val,rfl,h2,h3,h4,h5,h6⟩
    .have:=Qp (ty:=ty) (base:=a) (olds:=[]) (l:=[]) (sLen:=0) (sCap:=0) (s:=s) h hB ht hi hz hzs rfl rfl hs (fun w' _=>Ld w' i.size a) aB (by simpa using h47) Gg RS (fun p hp=>absurd hp (fZ p)) ry (.inr (by simp at hT;omega));simpa using imp hcn.1 this
    .by_cases hr:l.length+ys.length<=cap
     .exact amN (ty:=ty) h hB ht hi hz hsz hys hx hhead hs RS hb' hr ry hT
     .exact imp h6.2.1 (Qp (ty:=ty) (base:=some (at_ b o)) (s:=s) h hB ht hi hz hzs rfl rfl hs (fun w' hw=>GK (fun p j hp hj=>(h4 p j hp hj).1) w' hw) aB h47 hb RS (Qs h3 h5) ry (.inr RS))
  .simp at hv
end
section
variable {E:Env}{B0:Nat}{Z:ah}{K:bq}{w:World}{new:Nat->Prop}{T:Nat->Nat}
theorem Step.j3 (h:bG E B0 Z K w)(loc:Loc):Step E B0 new Z K w (Z.j3 loc) K w:=by
 refine⟨⟨fun loc' s ob hs=>?_,h.own,h.I,h.IM,h.loop,h.glob,h.rb,h.D⟩,.refl _ _ _,.refl _ _,fun _ h=>h,fun _ h=>.inl h,fun _ _ h=>.inl h,fun _ h=>.inl h⟩;by_cases hl:loc'=loc
 .subst hl;simp[ah.j3,upd_same] at hs
 .simp only[ah.j3,upd_ne _ _ hl] at hs;exact h.obj loc' s ob hs
theorem Step.amR (h:bG E B0 Z K w)(loc:Loc){st:Nat}(hst:¬K.A st):
 Step E B0 (· =st) Z K w (Z.setObj loc st (.cells [])) {K with A:=fun x=>K.A x\/x=st,sz:=upd K.sz st 0,lo:=upd K.lo st 0,hi:=upd K.hi st 0} w:=by
 have hne:∀x,K.A x->x≠st:=fun x hx e=>hst (e▸hx);have e:Ext K Z.top w {K with A:=fun x=>K.A x\/x=st,sz:=upd K.sz st 0,lo:=upd K.lo st 0,hi:=upd K.hi st 0} Z.top w:=
  ⟨fun x hx=>⟨.inl hx,rfl,rfl,upd_ne _ _ (hne x hx)⟩,fun x hx=>.inl ⟨rfl,rfl,upd_ne _ _ (hne x hx),upd_ne _ _ (hne x hx)⟩,fun b i hi=>⟨hi,rfl⟩,fun b hb=>⟨hb,rfl⟩⟩
 refine⟨?_,e,.refl _ _,fun b hb=>hb,fun _ h=>h,fun b o hi=>.inl hi,fun _ h=>.inl h⟩;refine⟨fun loc' x ob hx=>?_,fun x hx hlt=>?_,h.I,h.IM,fun l r hl=>?_,fun g cs hg=>(h.glob g cs hg).ext e,h.rb,h.D⟩
 .by_cases hl:loc'=loc
  .subst hl;simp only[ah.setObj,upd_same,iE,aS] at hx;obtain⟨rfl,rfl⟩:=hx;exact⟨.inr rfl,⟨fun _=>upd_same _ _ _,fun hn=>absurd rfl hn⟩,fun hr=>hr.elim⟩
  .simp only[ah.setObj,upd_ne _ _ hl] at hx;obtain⟨a1,a2,a3⟩:=h.obj loc' x ob hx;exact⟨.inl a1,a2.ext e a1 (fun _=>rfl),a3⟩
 .by_cases hxs:x=st
  .subst hxs;simp only[upd_same] at hlt;omega
  .simp only[upd_ne _ _ hxs] at hlt;have:=h.own x (hx.resolve_right hxs) hlt;exact⟨this.1,this.2.1,fun o p q=>this.2.2 o (by simpa only[upd_ne _ _ hxs] using p) (by simpa only[upd_ne _ _ hxs] using q)⟩
 .obtain⟨a1,a2⟩:=h.loop l r hl;exact⟨.inl a1,a2.ext e a1 rfl rfl⟩
def wI (K:bq)(T:Nat->Nat)(w:World)(fl:List V)(cells:List Value):Prop:=fl.length=cells.length/\∀q,q<fl.length->Rel K T w (fl.getD q aJ) (cells.getD q undef)
theorem wI.ext {K' T' w'}{fl:List V}{cells:List Value}(h:wI K T w fl cells)(e:Ext K T w K' T' w'):wI K' T' w' fl cells:=⟨h.1,fun q hq=>(h.2 q hq).ext e⟩
theorem wI.append {a b:List V}{x y:List Value}(h:wI K T w a x)(g:wI K T w b y):wI K T w (a++b) (x++y):=by
 refine⟨by simp[h.1,g.1],fun q hq=>?_⟩;by_cases h1:q<a.length
 .rw[rA h1,rA (by have:=h.1;omega)];exact h.2 q h1
 .rw[rC RS,rC (by have:=h.1;omega),<-h.1];exact g.2 _ (by simp at hq;omega)
theorem Le {sz:Nat}:∀{l:List V}{cells:List Value},lJ K T w sz l cells->cells.length=l.length*sz->wI K T w (l.flatMap V.cells) cells
 | [],cells,_,hl=>by have:cells=[]:=lF xH;subst this;exact⟨rfl,fun q hq=>absurd hq (fZ q)⟩
 |v::l,cells,h,hl=>by
  have hs:(l.length+1)*sz=l.length*sz+sz:=qX _ _;rw[List.length_cons,hs] at hl;obtain⟨h1,h2⟩:=h 0 aB;have h1:v.cells.length=sz:=h1;have e:cells=cells.take sz++cells.drop sz:=(qz _ _).symm;rw[e,lY];refine wI.append ⟨by simp[h1];omega,fun q hq=>?_⟩ (Le (sz:=sz) (fun i hi=>?_) dP)
  .have:=h2 q RS;rw[rz _ RS];simpa using this
  .obtain⟨g1,g2⟩:=h (i+1) dP;refine⟨by simpa using g1,fun j hj=>?_⟩;have:=g2 j hj;rw[tQ];have e2:sz+(i*sz+j)=(i+1)*sz+j:=by rw[qX];omega
   rw[e2];simpa using this
theorem Vp (h:bG E B0 Z K w)(hB:B0<=w.heap.size){t tx ty e:TypeId}{i:TypeInfo}{z:Value}{n sLen sCap st:Nat}{loc:Loc}{ag:Bool}{cx:Value}{olds news:List Value}{base:Option Addr}{fl:List V}(ht:E.P.underlying t=some (.slice e))(hi:E.P.info? e=some i)(hz:i.zero=some z)(hzs:z.cells.size=i.size)(hsz:0<i.size)(hs:za E.P w i.size n tx z cx news)(hold:∀w',w'.heap=w.heap->(Builtin.firstCells i.size sLen (.slice base sLen sCap)).run E.P w'= .ok olds.toArray w')(hol:olds.length=sLen*i.size)(h47:sLen+n<=2^47)(hb:(sLen+n)*i.bytes<=2^47)(hroom:sCap<sLen+n)(rf:wI K Z.top w fl (olds++news))(hst:¬K.A st):
 Done E B0 (· =st) Z K w (Builtin.append_ #[t,tx] ty #[.slice base sLen sCap,cx]) (.aU loc st 0 (sLen+n) (sLen+n) i.size ag) (Z.setObj loc st (.cells fl)):=by
 have hrun:=run_append_grow' (ty:=ty) ht hi hz hs hold h47 hb hroom;have hge:=grownCap_ge w (sLen+n) sCap e;generalize grownCap w (sLen+n) sCap e=nc at hrun hge;have hlen:(olds++news).length=(sLen+n)*i.size:=by rw[iP,hol,hs.len,qy]
 have hvs:((olds++news).toArray++Builtin.zeroCells z.cells (nc-(sLen+n))).size=nc*i.size:=by
  rw[Array.size_append];have:(olds++news).toArray.size=(sLen+n)*i.size:=by simpa using hlen
  rw[this];simp only[Builtin.zeroCells,Array.size_map,Array.size_range,hzs];rw[<-qy];congr 1;omega
 have hfl:fl.length=(sLen+n)*i.size:=by rw[rf.1,hlen]
 have hpos:0< (sLen+n)*i.size:=Nat.mul_pos RS hsz;have hle:(sLen+n)*i.size<=nc*i.size:=nJ _ hge;have hstep:=(Step.draw (new:=(· =st)) h).trans (Step.Qi (w:=w.drew) h.drew hB hst loc (.cells fl) (.cells ((olds++news).toArray++Builtin.zeroCells z.cells (nc-(sLen+n))) e) (nc*i.size) (fun K' e' _ hb' hs'=>by refine⟨fun h0=>by rw[h0] at hfl;simp at hfl;omega,fun _=>⟨Qd,_,e,by rw[hb'];exact heap_alloc_new w.drew _,by rw[hs',hvs],by rw[hfl,hvs];exact hle,fun q hq=>?_⟩⟩;rw[aeh RS];have e0:Ext K Z.top w K Z.top w.drew:=(Step.draw (new:=fun _=>False) h).ext;exact(rf.2 q hq).ext (e0.trans e')));refine⟨_,_,_,hrun,?_,hstep⟩;have key:Rel (K.mW st w.drew.heap.size (nc*i.size) loc) (Z.setObj loc st (.cells fl)).top (w.drew.alloc (.cells ((olds++news).toArray++Builtin.zeroCells z.cells (nc-(sLen+n))) e)) (.aU loc st 0 (sLen+n) (sLen+n) i.size ag)
  (.slice (some (at_ ((K.mW st w.drew.heap.size (nc*i.size) loc).blk st) 0)) (sLen+n) nc):=
  .aU loc st 0 _ _ i.size ag nc (.inr rfl) hge (mF _) (by show 0+_<=upd K.sz st _ st;rw[upd_same];omega)
 have hblk:(K.mW st w.drew.heap.size (nc*i.size) loc).blk st=w.heap.size:=upd_same _ _ _;rw[hblk] at key;exact key
theorem aej {b:Nat}{vals:Array Value}{t:TypeId}{off:Nat}{news:List Value}(g1:w.heap[b]? =some (.cells vals t (0,0)))(hle:off+news.length<=vals.size)(hone:∀u∈news,u.oneCell'=true):
 ∃w' vals',(storeCells (at_ b off) news).run E.P w= .ok () w'/\Only b w w'/\w'.heap[b]? =some (.cells vals' t (0,0))/\vals'.size=vals.size/\
  ∀i,i<vals.size->vals'.getD i undef=if off<=i/\i<off+news.length then news.getD (i-off) undef else vals.getD i undef:=by
 have hrun:=run_storeCells_at E.P b off t news 0 vals w g1 RS hone;refine⟨_,_,hrun,?_,setRow_heap w b vals _ t (0,0) g1,dP,fun i Lb=>?_⟩
 .refine⟨rfl,rfl,rfl,by simp[World.setRow],fun k hk _=>?_⟩;simp[World.setRow,Array.getElem?_modify,Ne.symm hk]
 .have hl:(vals.toList.take (off+0)).length=off:=dP
  have harr:∀(l:List Value),l.toArray.getD i undef=l.getD i undef:=fun l=>by simp[Array.getD,List.getD];split<;>simp_all
  rw[harr,eZ];by_cases h1:i<off
  .rw[rA RS,rz _ RS,if_neg RS];simp[List.getD,Array.getD,Lb]
  .rw[rC RS,hl];by_cases h2:i-off<news.length
   .rw[rA h2,if_pos RS]
   .rw[rC RS,tQ,if_neg RS];have:off+0+news.length+(i-off-news.length)=i:=RS;rw[this];simp[List.getD,Array.getD,Lb]
theorem Vq {loc:Loc}{s:Nat}{ob:jZ}(ho:Z.obj loc=some (s,ob)):Z.setObj loc s ob=Z:=by
 unfold ah.setObj;have:upd Z.obj loc (some (s,ob))=Z.obj:=by
  funext l;unfold upd;split
  .rename_i hl;rw[hl,ho]
  .rfl
 rw[this]
theorem aek (h:bG E B0 Z K w)(hB:B0<=w.heap.size){loc:Loc}{s off:Nat}{cs fl:List V}{news:List Value}(hcs:Z.dK loc s=some cs)(rf:wI K Z.top w fl news)(hle:off+fl.length<=cs.length)(hone:∀u∈news,u.oneCell'=true):
 ∃w',(storeCells (at_ (K.blk s) off) news).run E.P w= .ok () w'/\Step E B0 new Z K w (Z.setObj loc s (.cells (gI cs off fl))) K w':=by
 obtain⟨ho,_,_⟩:=h.wG hcs;obtain⟨_,kJ,_⟩:=h.obj _ _ _ ho;by_cases hne:cs=[]
 .subst hne;have h0:fl=[]:=by cases fl with|nil=>rfl|cons a b=>simp at hle
  subst h0;have h0':news=[]:=lF (by rw[<-rf.1];rfl);subst h0';have hsp:gI [] off []=([]:List V):=by simp[gI]
  rw[hsp,Vq ho];exact⟨w,rfl,.refl h⟩
 .obtain⟨hb0,vals,t',g1,g2,g3,g4⟩:=kJ.2 hne;obtain⟨w',vals',r1,r2,r3,r4,r5⟩:=aej (E:=E) (off:=off) (news:=news) g1 (by have:=rf.1;omega) hone;refine⟨w',r1,Step.setCells h hB ho hne g1 r2 r3 r4 (by intro h0;have:=BS hle;rw[h0] at this;exact hne (lF this.symm)) (by rw[BS hle,r4];exact g3) (fun e i hi=>?_)⟩;rw[BS hle] at hi;have hiv:i<vals.size:=lW hi g3;rw[Vh hle,r5 i hiv,<-rf.1];by_cases hh:off<=i/\i<off+fl.length
  .rw[if_pos hh,if_pos hh];exact(rf.2 _ RS).ext e
  .rw[if_neg hh,if_neg hh];exact(g4 i hi).ext e
end
section
variable {E:Env}{B0:Nat}{Z:ah}{K:bq}{w:World}{new:Nat->Prop}{T:Nat->Nat}
theorem ael {n b:Nat}(h:cK n b=true):n<=2^47/\n*b<=2^47:=by simp only[cK,aZ,decide_eq_true_eq] at h;exact⟨h.2,h.1⟩
theorem amS {sz:Nat}{ys:List V}{news:List Value}(h:lJ K T w sz ys news):(ys.flatMap V.cells).length=ys.length*sz:=by
 have:∀v∈ys,v.cells.length=sz:=fun v hv=>by
  obtain⟨i,hi,rfl⟩:=Gj.1 hv;have:=(h i hi).1
  rwa[kD hi] at this
 clear h;induction ys with
 |nil=>simp|cons a l ih=>rw[lY,iP,ih (fun v hv=>this v (by simp[hv])),this a aB,List.length_cons,qX];omega
theorem aem (h:bG E B0 Z K w){loc:Loc}{s:Nat}{cs:List V}(hcs:Z.dK loc s=some cs){n:Nat}(hn:n<=cs.length):
 ∃vals:Nat->Value,wI K Z.top w (cs.take n) ((List.range n).map vals)/\∀j,j<n->w.cell? (at_ (K.blk s) j)=some (vals j):=by
 obtain⟨ho,_,_⟩:=h.wG hcs;obtain⟨_,kJ,_⟩:=h.obj _ _ _ ho;by_cases hne:cs=[]
 .subst hne;have:n=0:=by simpa using hn
  subst this;exact⟨fun _=>undef,⟨rfl,fun q hq=>absurd hq (fZ q)⟩,fun j hj=>absurd hj (fZ j)⟩
 .obtain⟨hb0,vals,t',g1,g2,g3,g4⟩:=kJ.2 hne;refine⟨fun j=>vals.getD j undef,⟨dP,fun q hq=>?_⟩,fun j hj=>?_⟩
  .have hq':q<n:=by simp at hq;omega
   rw[rz _ hq'];have:((List.range n).map fun j=>vals.getD j undef).getD q undef=vals.getD q undef:=by simp[List.getD,hq']
   rw[this];exact g4 q RS
  .have:j<vals.size:=RS
   simp[World.cell?,g1,this]
theorem amT (h:bG E B0 Z K w)(hB:B0<=w.heap.size){t tx ty e:TypeId}{i:TypeInfo}{z:Value}{st s len cap:Nat}{kC loc:Loc}{ag BU:Bool}{ys cs:List V}{cx cy:Value}{news:List Value}{v:V}{Z':ah}(ht:E.P.underlying t=some (.slice e))(hi:E.P.info? e=some i)(hz:i.zero=some z)(hzs:z.cells.size=i.size)(hsz:0<i.size)(hst:¬K.A st)(hx:Rel K Z.top w (.aU kC s 0 len cap i.size BU) cx)(hs:za E.P w i.size ys.length tx z cy news)(ry:lJ K Z.top w i.size ys news)(h47:len+ys.length<=2^47)(hb:(len+ys.length)*i.bytes<=2^47)(hcs:Z.dK kC s=some cs)(hv:(if len+ys.length<=cap then if (len+ys.length)*i.size<=cs.length then some (V.aU kC s 0 (len+ys.length) cap i.size ag,Z.setObj kC s (.cells (gI cs (len*i.size) (ys.flatMap V.cells))))else none else if len*i.size<=cs.length then some (.aU loc st 0 (len+ys.length) (len+ys.length) i.size ag,(Z.j3 kC).setObj loc st (.cells (cs.take (len*i.size)++ys.flatMap V.cells)))else none)=some (v,Z')):
 Done E B0 (· =st) Z K w (Builtin.append_ #[t,tx] ty #[cx,cy]) v Z':=by
 have hb':ys.length*i.bytes<=2^47:=eO (nJ _ (Nat.le_add_left _ _)) hb;have hfl:=amS ry;have Lf:=Le ry hs.len;have hsum:(len+ys.length)*i.size=len*i.size+ys.length*i.size:=qy _ _ _;obtain⟨ho,hA,hks⟩:=h.wG hcs;split at hv
 .rename_i hcap;split at hv
  .rename_i hle;simp only[iE,aS] at hv;obtain⟨rfl,rfl⟩:=hv;cases hx with
   |om=>have hys:ys=[]:=lF RS;subst hys;have e1:gI cs (0*i.size) ([].flatMap V.cells)=cs:=(by simp[gI]);rw[e1,Vq ho];exact⟨_,_,_,BX (ty:=ty) (base:=none) (sLen:=0) (sCap:=0) ht hi hz hs rfl (mF _),.om kC s i.size ag hA,.refl h⟩|aU _ _ _ _ _ _ _ fq hA' hcc hlc Vr=>obtain⟨w',r1,r2⟩:=aek (new:=(· =st)) h hB hcs Lf (off:=len*i.size) (by rw[hfl];omega) hs.one;have hrun:=run_append_room' (ty:=ty) (sLen:=len) (sCap:=fq) (base:=some (at_ (K.blk s) 0)) (w':=w') ht hi hz hs RS hb' RS (fun a ha=>by simp only[iE] at ha;subst ha;rw[addr_add,nX];exact r1) (fun hn=>by cases hn);exact⟨_,_,_,hrun,.aU kC s 0 _ cap i.size ag fq hA hcc hcap Vr,r2⟩
  .simp at hv
 .rename_i hcap;split at hv
  .rename_i hle;simp only[iE,aS] at hv;obtain⟨rfl,rfl⟩:=hv;have grow:∀base fq,(∀w',w'.heap=w.heap->∀vals:Nat->Value,(∀j,j<len*i.size->w.cell? (at_ (K.blk s) j)=some (vals j))->(Builtin.firstCells i.size len (.slice base len fq)).run E.P w'= .ok ((List.range (len*i.size)).map vals).toArray w')->fq<len+ys.length->
    Done E B0 (· =st) Z K w (Builtin.append_ #[t,tx] ty #[.slice base len fq,cy]) (.aU loc st 0 (len+ys.length) (len+ys.length) i.size ag) ((Z.j3 kC).setObj loc st (.cells (cs.take (len*i.size)++ys.flatMap V.cells))):=by
    intro base fq hold hroom;obtain⟨vals,g1,g2⟩:=aem h hcs hle;have hd:=Step.j3 (new:=(· =st)) h kC;obtain⟨a,b,c,d1,d2,d3⟩:=Vp (ty:=ty) (ag:=ag) (loc:=loc) (base:=base) (sLen:=len) (sCap:=fq) (Z:=Z.j3 kC) (olds:=(List.range (len*i.size)).map vals) hd.ok hB ht hi hz hzs hsz hs (fun w' hw=>hold w' hw vals g2) aB h47 hb hroom ((g1.append Lf).ext hd.ext) hst;exact⟨a,b,c,d1,d2,hd.trans d3⟩
   cases hx with
   |om=>exact grow none 0 (fun w' _ vals _=>by simp[Builtin.firstCells]) RS
   |aU _ _ _ _ _ _ _ fq hA' hcc hlc Vr=>
    by_cases hr:len+ys.length<=fq
    .have hmc:=nJ i.size hr;have hpos:0< (len+ys.length)*i.size:=Nat.mul_pos RS hsz;obtain⟨_,kJ,_⟩:=h.obj _ _ _ ho;have hne:cs≠[]:=(by rintro rfl;have:=kJ.1 rfl;omega);obtain⟨hb0,vals,t',g1,g2,g3,g4⟩:=kJ.2 hne;obtain⟨w',vals',r1,r2,r3,r4,r5⟩:=aej (E:=E) (off:=len*i.size) (news:=news) g1 (by have:=Lf.1;omega) hs.one;have hrun:=run_append_room' (ty:=ty) (sLen:=len) (sCap:=fq) (base:=some (at_ (K.blk s) 0)) (w':=w') ht hi hz hs RS hb' hr (fun a ha=>by simp only[iE] at ha;subst ha;rw[addr_add,nX];exact r1) (fun hn=>by cases hn);have hcl:(cs.take (len*i.size)++ys.flatMap V.cells).length=(len+ys.length)*i.size:=(by simp only[iP,jV,hfl];omega);have hstep:=Step.ame (loc:=loc) (cs:=cs.take (len*i.size)++ys.flatMap V.cells) h hB hst ho hne g1 r2 r3 (by intro h0;rw[h0] at hcl;simp at hcl;omega) RS (fun K' e' q hq=>by
      have amU:q<vals.size:=RS;have hrf:=Lf.1;have hlt:(cs.take (len*i.size)).length=len*i.size:=(by simp only[jV];omega);rw[r5 q amU];by_cases h1:q<len*i.size
      .rw[rA RS,rz _ h1,if_neg RS];exact(g4 q RS).ext e'
      .rw[rC RS,hlt,if_pos RS];exact(Lf.2 _ RS).ext e')
     refine⟨_,_,_,hrun,?_,hstep⟩;have key:Rel (K.mW st (K.blk s) vals'.size loc) ((Z.j3 kC).setObj loc st (.cells (cs.take (len*i.size)++ys.flatMap V.cells))).top w' (.aU loc st 0 (len+ys.length) (len+ys.length) i.size ag)
      (.slice (some (at_ ((K.mW st (K.blk s) vals'.size loc).blk st) 0)) (len+ys.length) fq):=
      .aU loc st 0 _ _ i.size ag fq (.inr rfl) hr (mF _) (by show 0+_<=upd K.sz st _ st;rw[upd_same];omega)
     have hblk:(K.mW st (K.blk s) vals'.size loc).blk st=K.blk s:=upd_same _ _ _;rw[hblk] at key;exact key
    .exact grow (some (at_ (K.blk s) 0)) fq (fun w' hw vals amV=>by have:=GK (E:=E) (w:=w) (sz:=i.size) (n:=len) (cap:=fq) (b:=K.blk s) (o:=0) (val:=fun p q=>vals (p*i.size+q)) (fun p q hp hq=>by rw[nX];exact amV _ (mul_lt hp hq)) w' hw;rw[this];congr 3;funext q;show vals (q/i.size*i.size+q% i.size)=vals q;rw[wB,Nat.div_add_mod]) RS
  .simp at hv
theorem Vs (h:bG E B0 Z K w)(hB:B0<=w.heap.size){aj zeros:Bool}{st:Nat}{loc:Option Loc}{t tx ty:TypeId}{x y v:V}{cx cy:Value}{Z':ah}(hst:¬K.A st)(hx:Rel K Z.top w x cx)(hy:Rel K Z.top w y cy)(hk:zeros=true->∃k,E.P.underlying tx=some (.int k))(hk':zeros=false->(∃e',E.P.underlying tx=some (.slice e'))\/E.P.underlying tx=some .string)(hv:ku E.P aj zeros Z st loc t x y=some (v,Z')):Done E B0 (· =st) Z K w (Builtin.append_ #[t,tx] ty #[cx,cy]) v Z':=by
 simp only[ku,iR] at hv;obtain⟨e,he,sz,hsz,gy,hby,ag,hag,z,hz,hv⟩:=hv;split at hv
 .rename_i hc;obtain⟨c1,c2,c3,c4⟩:=hc;simp only[iR] at hv;obtain⟨ys,hys,hv⟩:=hv;split at hv
  .rename_i hone;have hu:=K8 he;obtain⟨i,cz,hi,rfl,rfl,hiz,hzv⟩:=amO hsz hby hz;have hraw:fC z=true:=K7 hz;obtain⟨aAK,_,hz2⟩:=BR w hz;have hrz:Rel K Z.top w z cz:=U1 hzv;have hzs:cz.cells.size=i.size:=by rw[<-(BQ hrz hraw).1,c2]
   obtain⟨news,hs,ry⟩:=amK (e:=e) h hy hrz hraw c2 c4 hk hk' c1 hys hone rfl;cases x with
   |ak c l=>
    simp only at hv;split at hv
    .rename_i hr;obtain⟨hr,hhead⟩:=hr;obtain⟨h47,hb⟩:=ael hr;have aen:∀loc,(c= .nil\/(c= .full/\ys≠[]))->Done E B0 (· =st) Z K w (Builtin.append_ #[t,tx] ty #[cx,cy]) (.aU loc st 0 (l.length+ys.length) (l.length+ys.length) i.size ag) (Z.setObj loc st (.cells ((l++ys).flatMap V.cells))):=by
      intro loc hcc;have amW:=Le ry hs.len;rcases GJ hx hhead (fun n s hh=>by rcases hcc with rfl| ⟨rfl,_⟩<;>cases hh) with ⟨a0,rfl,ha0,rfl,_⟩| ⟨b,o,cap,val,rfl,h2,h3,h4,h5,h6⟩
      .by_cases hy0:ys=[]
       .subst hy0;have ha:a0=none:=by
         rcases hcc with h1| ⟨_,h1⟩
         .exact ha0 h1
         .exact absurd rfl h1
        subst ha;exact⟨_,_,_,BX (ty:=ty) (base:=none) (sLen:=0) (sCap:=0) hu hi hiz hs rfl (mF _),.om loc st i.size ag (Or.inr rfl),Step.amR h loc hst⟩
       .have hl:0<ys.length:=uS.2 hy0;have:=Vp (ty:=ty) (ag:=ag) (loc:=loc) (base:=a0) (olds:=[]) (sLen:=0) (sCap:=0) (fl:=ys.flatMap V.cells) h hB hu hi hiz hzs c3 hs (fun w' _=>Ld w' i.size a0) aB (by simpa using h47) Gg RS (by simpa using amW) hst;simpa using this
      .rcases hcc with rfl| ⟨rfl,hy0⟩
       .exact h6.elim
       .have hcap:cap=l.length:=h6;subst hcap;have hl:0<ys.length:=uS.2 hy0;have rc:=aef (Qs h3 h5) ry aB;exact Vp (ty:=ty) (ag:=ag) (loc:=loc) (base:=some (at_ b o)) h hB hu hi hiz hzs c3 hs (fun w' hw=>GK (fun p j hp hj=>(h4 p j hp hj).1) w' hw) aB h47 hb RS (Le rc (by rw[iP,hs.len,iP,qy];simp)) hst
     cases aj with
     |true=>
      cases c with
      |nil=>simp only[aW,aS] at hv;obtain⟨loc,_,rfl,rfl⟩:=hv;exact aen loc (.inl rfl)
      |full=>
       simp only at hv;split at hv
       .rename_i hy0;simp only[iE,aS] at hv;obtain⟨rfl,rfl⟩:=hv;have hn:ys.length=0:=(by simpa using hy0);rcases GJ hx hhead (fun n s hh=>by cases hh) with ⟨a0,rfl,_,rfl,_⟩| ⟨b,o,cap,val,rfl,h2,h3,h4,h5,h6⟩
        .exact⟨_,_,_,BX (ty:=ty) (base:=a0) (sLen:=0) (sCap:=0) hu hi hiz hs hn (mF _),hx,Step.refl h⟩
        .exact⟨_,_,_,BX (ty:=ty) (base:=some (at_ b o)) hu hi hiz hs hn RS,hx,Step.refl h⟩
       .rename_i hy0;simp only[aW,aS] at hv;obtain⟨loc,_,rfl,rfl⟩:=hv;exact aen loc (.inr ⟨rfl,fun h0=>hy0 (by rw[h0];rfl)⟩)
      |own n s=>simp at hv|sh=>simp at hv
     |false=>refine amQ (ty:=ty) h hB hu hi hiz hzs c3 hst hx hs ry h47 hb hhead ?_;rw[<-hv];cases c<;>rfl
    .simp at hv
   |aU kC s off len cap bD BU=>
    simp only at hv;split at hv
    .rename_i hr;obtain⟨hr,_,rfl,rfl⟩:=hr;obtain⟨h47,hb⟩:=ael hr;simp only[iR] at hv;obtain⟨loc,_,cs,hcs,hv⟩:=hv;exact amT (ty:=ty) h hB hu hi hiz hzs c3 hst hx hs ry h47 hb hcs hv
    .simp at hv
   |_=>simp at hv
  .simp at hv
 .simp at hv
end
section
variable {E:Env}{B0:Nat}{Z:ah}{K:bq}{w:World}{new:Nat->Prop}{T:Nat->Nat}
theorem amX (h:bG E B0 Z K w)(hB:B0<=w.heap.size){aj:Bool}{st:Nat}{loc:Option Loc}{t:TypeId}{l c v:V}{cl cc:Value}{Z':ah}(hst:¬K.A st)(hl:Rel K Z.top w l cl)(hc:Rel K Z.top w c cc)(hv:Ai E.P aj Z st loc t l c=some (v,Z')):Done E B0 (· =st) Z K w (Instr.makeSlice t cl cc) v Z':=by
 unfold Ai at hv;cases hv
theorem amY (h:bG E B0 Z K w)(hB:B0<=w.heap.size){st:Nat}{loc:Option Loc}{t:TypeId}{len:Nat}{parts:List (Nat×V)}{parts':Array (Nat×Value)}{v:V}{Z':ah}(hst:¬K.A st)(hp:GH K Z.top w parts parts'.toList)(hv:BO E Z st loc t len parts=some (v,Z')):Done E B0 (· =st) Z K w (Instr.buildSlice t len parts') v Z':=by
 simp only[BO,iR] at hv;obtain⟨e,he,sz,hsz,ag,hag,z,hz,hv⟩:=hv;split at hv
 .rename_i hc;obtain⟨c1,c2,c3⟩:=hc;simp only[iR,aW,aS] at hv;obtain⟨cs,hcs,loc,_,rfl,rfl⟩:=hv;obtain⟨cz,hz1,hz2⟩:=BR w hz;have hraw:fC z=true:=K7 hz;have hrz:=Vl (hz2 K Z.top) hraw c2 len;obtain⟨vs',g1,g2,g3⟩:=Lc (K:=K) (T:=Z.top) (w:=w) (place':=fun i=>some (i*sz,sz)) (fun i x hx=>by
   split at hx
   .exact hx
   .simp at hx) parts parts'.toList _ _ _ hp hrz hcs
  have hlen:cs.length=len*sz:=by rw[g2.1,g3];simp
  have hu:=K8 he;have hrun:(Instr.buildSlice t len parts').run E.P w= .ok (.slice (some ⟨w.heap.size,0,none⟩) len len) (w.alloc (.cells vs' e)):=by
   have hn:¬2^24<len*sz:=RS
   by_cases h0:len*sz=0
   .have hl0:len=0:=by
     rcases Nat.mul_eq_zero.1 h0 with h|h
     .exact h
     .omega
    subst hl0;simp only[Instr.buildSlice,Sem.run_bind,run_underlying hu,Result.andThen_ok,lI w hsz,Nat.zero_mul];have g1':Instr.fill (fun i=>some (i*sz,sz)) #[] parts'.toList=some vs':=(by have e0:((Array.range (0*sz)).map fun i=>cz.cells[i% cz.cells.size]!)= #[]:=PW;rw[<-e0];exact g1);have e1:∀f:Nat->Value,(Array.range 0).map f= #[]:=fun f=>PW
    simp only[if_true,e1,g1'];simp[newRow]
   .simp only[Instr.buildSlice,Sem.run_bind,run_underlying hu,Result.andThen_ok,lI w hsz,hn,gt_iff_lt,if_false,h0,hz1,Sem.run_pure];rw[g1];simp[newRow]
  have hms:vs'.size=len*sz:=by rw[<-g2.1,hlen]
  have hstep:=Step.Qi h hB hst loc (.cells cs) (.cells vs' e) (len*sz) (fun K' e' _ hb' hs'=>by refine⟨fun h0=>by rw[h0] at hlen;rw[hs',<-hlen];rfl,fun _=>⟨Qd,_,e,by rw[hb'];exact heap_alloc_new w _,by rw[hs',hms],by rw[hlen,hms];exact mF _,fun q hq=>?_⟩⟩;exact(g2.2 q hq).ext e');refine⟨_,_,_,hrun,?_,hstep⟩;have key:Rel (K.mW st w.heap.size (len*sz) loc) (Z.setObj loc st (.cells cs)).top (w.alloc (.cells vs' e)) (.aU loc st 0 len len sz ag)
   (.slice (some (at_ ((K.mW st w.heap.size (len*sz) loc).blk st) 0)) len len):=
   .aU loc st 0 _ _ sz ag _ (Or.inr rfl) (mF _) (mF _) (by show 0+_<=upd K.sz st _ st;rw[upd_same];omega)
  have hblk:(K.mW st w.heap.size (len*sz) loc).blk st=w.heap.size:=upd_same _ _ _;rw[hblk] at key;exact key
 .simp at hv
theorem amZ (h:bG E B0 Z K w){ag:Bool}{sz:Nat}{z y:V}{cy:Value}{ys:List V}(hy:Rel K Z.top w y cy)(hag:(ag||sz==1)=true)(hi:yZ y=false)(hv:mU Z ag sz z y=some ys):
 ∃cells,cells.length=ys.length*sz/\lJ K Z.top w sz ys cells/\(∀w',(Builtin.lenOf cy).run E.P w'= .ok ys.length w')/\
  ∀n,n<=ys.length->(Builtin.firstCells sz n cy).run E.P w= .ok (cells.take (n*sz)).toArray w:=by
 have hrange:∀(f:Nat->Value)(a b:Nat),a<=b->((List.range b).map f).take a=(List.range a).map f:=by intro f a b hab;rw[<-List.map_take,List.take_range,wC hab]
 cases y with
 |int=>simp[yZ] at hi|ak c l=>
  simp only[mU] at hv;split at hv
  .rename_i hs;simp only[iE] at hv;subst hv;have hx':=GI hy;rcases GJ hx' hs (fun n s hh=>by cases hh) with ⟨a,rfl,_,rfl,_⟩| ⟨b,o,cap,val,rfl,h2,h3,h4,h5,h6⟩
   .exact⟨[],aB,fun p hp=>absurd hp (fZ p),fun _=>rfl,fun n hn=>by obtain rfl:n=0:=(by simpa using hn);simpa using Ld w sz a⟩
   .refine⟨_,aB,Qs h3 h5,fun _=>rfl,fun n hn=>?_⟩;rw[hrange _ _ _ (nJ _ hn)];exact GK (E:=E) (cap:=cap) (fun p q hp hq=>(h4 p q RS hq).1) w rfl
  .simp at hv
 |str s=>
  simp only[mU] at hv;split at hv
  .rename_i hs;simp only[iE] at hv;subst hv;subst hs;obtain⟨cells,_,h2⟩:=aec (E:=E) (e:=(default:TypeId)) hy;cases hy with|str _ b hb=>
   subst hb;refine⟨byteCells b,by simp[byteCells],?_,fun w'=>by simp[Builtin.lenOf],fun n hn=>?_⟩
   .intro i hi;have hi':i<b.data.toList.length:=jH;have hg:(b.data.toList.map wF).getD i aJ=wF b.data.toList[i]:=(by rw[kD hi,BG]);rw[hg];refine⟨rfl,fun j hj=>?_⟩;obtain rfl:j=0:=RS;have hv:(byteCells b).getD (i*1+0) undef= .int .u8 b.data.toList[i].toNat:=(by have Qr:i<b.size:=(by simpa using hi');simp[byteCells,List.getD,Qr]);rw[hv];exact .int _ _
   .simp only[Builtin.firstCells,Sem.run_pure];congr 1;apply Array.ext';simp[byteCells]
  .simp at hv
 |aU loc s off len cap bD BU=>
  simp only[mU] at hv;split at hv
  .simp at hv
  .rename_i he;have he:bD=sz:=by simpa using he
   subst he;simp only[iR] at hv;obtain⟨cs,hcs,hv⟩:=hv;split at hv
   .rename_i hc;simp only[iE] at hv;subst hv;have hlen:((chunks ag bD len (cs.drop off)).map er).length=len:=(by rw[eU,vg]);obtain⟨vals,g1,g2⟩:=aem h hcs hc.1;have am0:lJ K Z.top w bD ((chunks ag bD len (cs.drop off)).map er) ((List.range (len*bD)).map fun q=>vals (off+q)):=by
     intro p hp;rw[hlen] at hp;have hp':p< (chunks ag bD len (cs.drop off)).length:=(by rw[vg];exact hp);have hge:((chunks ag bD len (cs.drop off)).map er).getD p aJ=er ((chunks ag bD len (cs.drop off)).getD p aJ):=(by simp[List.getD,hp']);rw[hge,Qo];have hcc:=Ve (cs:=cs.drop off) ag (n:=bD) (k:=len) (fun hf=>by subst hf;simpa using hag) dP (fun hf=>by
      rcases hc.2 with h1|h1
      .simp only[bY,kU] at h1⊢;exact fun x hx=>h1 x (List.mem_of_mem_drop hx)
      .subst h1;cases hf) hp
     have hlt:p*bD+bD<=len*bD:=by
      have:=nJ bD (Nat.succ_le_of_lt hp)
      rwa[qX] at this
     refine⟨P6,fun j hj=>?_⟩;refine Vn P6 ?_;rw[hcc,rz _ hj,tQ,tQ];have hq:p*bD+j<len*bD:=RS;have:((List.range (len*bD)).map fun q=>vals (off+q)).getD (p*bD+j) undef=vals (off+(p*bD+j)):=(by simp[List.getD,hq]);rw[this];have:=g1.2 (off+(p*bD+j)) (by have:=hc.1;simp;omega);rw[rz _ RS] at this;have e2:((List.range (off+len*bD)).map vals).getD (off+(p*bD+j)) undef=vals (off+(p*bD+j)):=(by simp[List.getD,hq]);rw[e2] at this;exact this
    refine⟨_,by rw[hlen];simp,am0,fun w'=>?_,fun n hn=>?_⟩
    .rw[hlen];cases hy<;>rfl
    .rw[hlen] at hn;rw[hrange _ _ _ (nJ _ hn)];cases hy with
     |om=>obtain rfl:n=0:=RS
          simp[Builtin.firstCells]
     |aU _ _ _ _ _ _ _ fq hA' hcc hlc hsz=>have hm:=nJ bD hn;have:=GK (E:=E) (w:=w) (sz:=bD) (n:=n) (cap:=fq) (b:=K.blk s) (o:=off) (val:=fun p q=>vals (off+(p*bD+q))) (fun p q hp hq=>by rw[oG];exact g2 _ (by have:=mul_lt hp hq;omega)) w rfl;have e3:(fun q=>vals (off+(q/bD*bD+q% bD)))=fun q=>vals (off+q):=(by funext q;rw[wB (q/bD),Nat.div_add_mod]);rw[e3] at this;exact this
   .simp at hv
 |_=>simp[mU] at hv
theorem am1 {sz n:Nat}{ys:List V}{cells:List Value}(h:lJ K T w sz ys cells):lJ K T w sz (ys.take n) (cells.take (n*sz)):=by
 intro i hi;have hi':i<n/\i<ys.length:=KO
 obtain⟨g1,g2⟩:=h i hi'.2;rw[rz _ hi'.1];refine⟨g1,fun j hj=>?_⟩;rw[rz _ (mul_lt hi'.1 hj)];exact g2 j hj
theorem am2 (h:bG E B0 Z K w)(hB:B0<=w.heap.size){t tx ty:TypeId}{x y v:V}{cx cy:Value}{Z':ah}(hx:Rel K Z.top w x cx)(hy:Rel K Z.top w y cy)(hv:copyV E.P Z t x y=some (v,Z')):Done E B0 new Z K w (Builtin.copy_ #[t,tx] ty #[cx,cy]) v Z':=by
 simp only[copyV,iR] at hv;obtain⟨e,he,sz,hsz,ag,hag,hv⟩:=hv;split at hv
 .rename_i hc;obtain⟨c1,c2⟩:=hc;simp only[iR] at hv;obtain⟨ys,hys,hv⟩:=hv;split at hv
  .rename_i hone;have hu:=K8 he;obtain⟨cells,g1,g2,g3,g4⟩:=amZ (E:=E) h hy c2 c1 hys;cases x with
   |aU loc s off len cap bD BU=>
    simp only[iR] at hv;obtain⟨cs,hcs,hv⟩:=hv;split at hv
    .rename_i hle;obtain⟨rfl,hle⟩:=hle;simp only[iE,aS] at hv;obtain⟨rfl,rfl⟩:=hv;obtain⟨ho,hA,hks⟩:=h.wG hcs;cases hx with
     |om=>have e1:gI cs 0 ((ys.take (min ys.length 0)).flatMap V.cells)=cs:=(by simp[gI]);rw[e1,Vq ho];refine⟨_,w,K,?_,.int .i64 _,.refl h⟩;have g4':=g4 0 (qA _);simp at g4';simp[Builtin.copy_,run_underlying hu,g3,lI w hsz,g4',goInt]|aU _ _ _ _ _ _ _ fq hA' hcc hlc Vr=>have hn:min ys.length len<=ys.length:=Nat.min_le_left _ _;have hone':=Vo g2 g1 hone;have hty:(ys.take (min ys.length len)).length=min ys.length len:=aB;have hct:(cells.take (min ys.length len*bD)).length=(ys.take (min ys.length len)).length*bD:=(by rw[hty,jV,g1];exact wC (nJ _ hn));have rf:=Le (am1 (n:=min ys.length len) g2) hct;obtain⟨w',r1,r2⟩:=aek (new:=new) h hB hcs rf (off:=off) (by rw[rf.1,hct,hty];omega) (fun u hu=>hone' u (List.mem_of_mem_take hu));refine⟨_,w',K,?_,.int .i64 _,r2⟩;have g4':=g4 _ hn;have hm:(ys.length).min len=min ys.length len:=rfl;simp[Builtin.copy_,run_underlying hu,g3,lI w hsz,hm,g4',r1,goInt]
    .simp at hv
   |ak c l=>
    cases l with
    |nil=>
     simp only[iE,aS] at hv;obtain⟨rfl,rfl⟩:=hv;refine⟨_,w,K,?_,.int .i64 0,.refl h⟩;have g4':=g4 0 (qA _);simp at g4';have hst:∀a:Addr,(storeCells a []).run E.P w= .ok () w:=fun a=>rfl;cases hx with
     |gD _ a _ _=>cases a<;>simp[Builtin.copy_,run_underlying hu,g3,lI w hsz,g4',goInt,hst]|ak=>simp[Builtin.copy_,run_underlying hu,g3,lI w hsz,g4',goInt,hst]
    |cons a l=>simp at hv
   |_=>simp at hv
  .simp at hv
 .simp at hv
theorem am3 (h:bG E B0 Z K w)(hB:B0<=w.heap.size){t ty:TypeId}{x v:V}{cx:Value}{Z':ah}(hx:Rel K Z.top w x cx)(hv:Gp E.P Z t x=some (v,Z')):Done E B0 new Z K w (Builtin.clear_ #[t] ty #[cx]) v Z':=by
 unfold Gp at hv;cases hv
end
section
variable {E:Env}{B0:Nat}{Z:ah}{K:bq}{w:World}{new:Nat->Prop}{T:Nat->Nat}
theorem am4 (h:bG E B0 Z K w){t ty:TypeId}{ts:Array TypeId}{x:V}{cx:Value}{n:Nat}(ht:ts[0]? =some t)(hx:Rel K Z.top w x cx)(hv:uZ E Z t x=some n):(Builtin.len_ ts ty #[cx]).run E.P w= .ok (.int .i64 n) w:=by
 unfold uZ at hv;split at hv
 .rename_i m e hu;simp only[iE] at hv;subst hv;simp[Builtin.len_,ht,run_underlying hu,goInt]
 .rename_i k e loc s hu;simp only[aW] at hv;obtain⟨⟨ks,vs⟩,hm,rfl⟩:=hv;unfold ah.jh at hm;split at hm
  .rename_i s' ks' vs' ho;split at hm
   .rename_i hs;subst hs;simp only[iE,aS] at hm;obtain⟨rfl,rfl⟩:=hm;obtain⟨_,⟨_,es,dL,g1,g2,_⟩,_⟩:=h.obj _ _ _ ho;cases hx;have hg:(getObj (K.blk s')).run E.P w= .ok (.map es dL) w:=(by simp[getObj,Sem.run,g1]);simp[Builtin.len_,ht,run_underlying hu,goInt,hg,g2]
   .simp at hm
  .simp at hm
 .rename_i k e ks vs hu;simp only[iE] at hv;subst hv;cases hx with|eF _ _ b es dL hM hb hk hv' rk rv=>
  have hg:(getObj b).run E.P w= .ok (.map es dL) w:=by simp[getObj,Sem.run,hb]
  simp[Builtin.len_,ht,run_underlying hu,goInt,hg,hk]
 .rename_i k e hu;simp only[iE] at hv;subst hv;cases hx;simp[Builtin.len_,ht,run_underlying hu,goInt]
 .rename_i a x hu;simp only[aW] at hv;obtain⟨⟨m,e⟩,hm,rfl⟩:=hv;simp[Builtin.len_,ht,run_underlying hu,run_underlying (adV hm),goInt]
 .rename_i e c l hu;simp only[iE] at hv;subst hv;cases hx<;>simp[Builtin.len_,ht,run_underlying hu,goInt]
 .rename_i e loc s off len cap bD ag hu;simp only[iE] at hv;subst hv;cases hx<;>simp[Builtin.len_,ht,run_underlying hu,goInt]
 .rename_i s hu;simp only[iE] at hv;subst hv;cases hx with|str _ b hb=>
  subst hb;simp[Builtin.len_,ht,run_underlying hu,goInt]
 .simp at hv
theorem am5 {t e ty:TypeId}{ts:Array TypeId}{x v:V}{cx:Value}{Z':ah}(ht:ts[0]? =some t)(hu:E.P.underlying t=some (.slice e))(hv:(match x with|.ak .nil l|.ak .full l=>some (V.int .i64 l.length,Z)|_=>none)=some (v,Z'))(hx:Rel K Z.top w x cx):
 Z'=Z/\∃c,(Builtin.cap_ ts ty #[cx]).run E.P w= .ok c w/\Rel K Z.top w v c:=by
 cases x with
 |ak c l=>
  cases c with
  |nil=>
   simp only[iE,aS] at hv;obtain⟨rfl,rfl⟩:=hv;cases hx with
   |gD _ a=>exact⟨rfl,_,by cases a<;>simp[Builtin.cap_,ht,run_underlying hu,goInt],.int .i64 0⟩|ak _ _ _ _ _ _ _ _ _ _ _ hc=>exact hc.elim
  |full=>
   simp only[iE,aS] at hv;obtain⟨rfl,rfl⟩:=hv;cases hx with
   |gD _ a=>exact⟨rfl,_,by cases a<;>simp[Builtin.cap_,ht,run_underlying hu,goInt],.int .i64 0⟩|ak _ _ _ _ _ cap _ _ _ _ _ hc=>have hc:cap=l.length:=hc;subst hc;exact⟨rfl,_,by simp[Builtin.cap_,ht,run_underlying hu,goInt],.int .i64 _⟩
  |_=>simp at hv
 |_=>simp at hv
theorem aeo:∀(l:List V)(cl:List Value)(x v:V)(cx:Value),l.length=cl.length->(∀i,i<l.length->Rel K T w (l.getD i aJ) (cl.getD i undef))->Rel K T w x cx->xM false x l=some v->
 ∃c,(cl.foldlM Builtin.min2 cx).run E.P w= .ok c w/\Rel K T w v c
 | [],[],x,v,cx,_,_,hx,hv=>by simp only[xM,iE] at hv;subst hv;exact⟨cx,rfl,hx⟩|y::l,cy::cl,x,v,cx,hl,hr,hx,hv=>by
  cases x<;>cases y<;>simp only[xM,reduceCtorEq] at hv;rename_i k a k' b;split at hv
  .rename_i hk;subst hk;have h0:=hr 0 aB;simp at h0;cases hx;cases h0;obtain⟨c,h1,h2⟩:=aeo l cl _ v (.int k (if b<a then b else a)) xH (fun i hi=>by have:=hr (i+1) dP;simpa using this) (.int k _) hv;exact⟨c,by simpa [Builtin.min2] using h1,h2⟩
  .simp at hv
 | [],_::_,_,_,_,h,_,_,_=>wz|_::_,[],_,_,_,h,_,_,_=>wz
theorem aep:∀(l:List V)(cl:List Value)(x v:V)(cx:Value),l.length=cl.length->(∀i,i<l.length->Rel K T w (l.getD i aJ) (cl.getD i undef))->Rel K T w x cx->xM true x l=some v->
 ∃c,(cl.foldlM Builtin.max2 cx).run E.P w= .ok c w/\Rel K T w v c
 | [],[],x,v,cx,_,_,hx,hv=>by simp only[xM,iE] at hv;subst hv;exact⟨cx,rfl,hx⟩|y::l,cy::cl,x,v,cx,hl,hr,hx,hv=>by
  cases x<;>cases y<;>simp only[xM,reduceCtorEq] at hv;rename_i k a k' b;split at hv
  .rename_i hk;subst hk;have h0:=hr 0 aB;simp at h0;cases hx;cases h0;obtain⟨c,h1,h2⟩:=aep l cl _ v (.int k (if b>a then b else a)) xH (fun i hi=>by have:=hr (i+1) dP;simpa using this) (.int k _) hv;exact⟨c,by simpa [Builtin.max2] using h1,h2⟩
  .simp at hv
 | [],_::_,_,_,_,h,_,_,_=>wz|_::_,[],_,_,_,h,_,_,_=>wz
end
end aR
end
