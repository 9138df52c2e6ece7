import Derived.Deep.Upon
import Derived.Test.YthadiihdjhakdaaGreatF2901
set_option linter.all false
section
namespace aY
open Go Go.RowKit
section
variable {E:Env}{B0:Nat}{σ:au}{K:aV}{w:World}{new:Nat->Prop}{T:Nat->Nat}
def Src (P:Program)(w:World)(sz n:Nat)(cx:Value)(cells:List Value):Prop:=
 cells.length=n*sz/\∀w',w'.heap=w.heap->(Builtin.firstCells sz n cx).run P w'= .ok cells.toArray w'
def nC (K:aV)(T:Nat->Nat)(w:World)(sz:Nat)(l:List V)(cells:List Value):Prop:=
 ∀i,i<l.length->(l.getD i aK).cells.length=sz/\∀j,j<sz->Rel K T w ((l.getD i aK).cells.getD j aK) (cells.getD (i*sz+j) undef)
theorem nC.ext {K' T' w'}{sz:Nat}{l:List V}{cells:List Value}(h:nC K T w sz l cells)(e:Ext K T w K' T' w'):nC K' T' w' sz l cells:=
 fun i hi=>⟨(h i hi).1,fun j hj=>((h i hi).2 j hj).ext e⟩
theorem mul_lt {i j n sz:Nat}(hi:i<n)(hj:j<sz):i*sz+j<n*sz:=by have:=tK sz (Nat.succ_le_of_lt hi);rw[qO] at this;omega
theorem aea {f:Nat->Nat->Value}{n sz i j:Nat}(hi:i<n)(hj:j<sz):((List.range (n*sz)).map fun q=>f (q/sz) (q% sz)).getD (i*sz+j) undef=f i j:=by
 have hlt:=mul_lt hi hj;have h1:(i*sz+j)/sz=i:=by rw[Ab,Nat.mul_add_div ah,Nat.div_eq_of_lt hj,Nat.add_zero]
 have h2:(i*sz+j)% sz=j:=by rw[Ab,Nat.mul_add_mod,Nat.mod_eq_of_lt hj]
 simp[List.getD,hlt,h1,h2]
theorem R4 {P:Program}(w:World)(sz:Nat)(a:Option Addr):(Builtin.firstCells sz 0 (.slice a 0 0)).run P w= .ok #[] w:=by
 cases a with
 |none=>simp[Builtin.firstCells]|some a=>simpa using run_firstCells_some (P:=P) w sz 0 a 0 0 [] aC (fun j v hj=>by simp at hj)
theorem amn {c:Cap}{l:List V}{cx:Value}{sz:Nat}(h:Rel K T w (.ay c l) cx)(hs:qR sz l=true):∃cells,Src E.P w sz l.length cx cells/\nC K T w sz l cells:=by
 cases h with
 |fu _ a ha hc=>exact⟨[],⟨aC,fun w' _=>R4 w' sz a⟩,fun i hi=>absurd hi (gK i)⟩
 |ay _ _ b o n cap val hle hn hcell hrel hc=>
  by_cases h0:l=[]
  ·subst h0
   refine⟨[],⟨aC,fun w' hw=>?_⟩,fun i hi=>absurd hi (gK i)⟩;have:=run_firstCells_some (P:=E.P) w' sz 0 (at_ b o) 0 cap [] aC (fun j v hj=>by simp at hj);simpa using this
  ·have hpos:0<l.length:=CP.2 h0
   have amo:n=sz:=XY hs hn hpos;subst amo;refine⟨(List.range (l.length*n)).map fun q=>val (q/n) (q% n),⟨aC,fun w' hw=>?_⟩,fun i hi=>⟨hn i hi,fun j hj=>?_⟩⟩
   ·refine run_firstCells_some (P:=E.P) w' n l.length (at_ b o) l.length cap _ aC (fun j v hj=>?_)
    have hjl:j<l.length*n:=(by have:=(oC.1 hj).1;simpa using this);have hn0:0<n:=by
     rcases Nat.eq_zero_or_pos n with h|h
     ·subst h;simp at hjl
     ·exact h
    simp[hjl] at hj;subst hj;rw[addr_add];have:=(hcell (j/n) (j% n) (Nat.div_lt_of_lt_mul (by rw[Ab];exact hjl)) (Nat.mod_lt _ hn0)).1;rw[cell_of_heap (w:=w) (by rw[hw])]
    rwa[uP,Ab,Nat.div_add_mod] at this
   ·rw[aea hi hj];exact hrel i j hi hj
theorem amq {s:List UInt8}{cx:Value}{e:TypeId}(h:Rel K T w (.str s) cx):∃cells,Src E.P w 1 (s.map Ai).length cx cells/\nC K T w 1 (s.map Ai) cells:=by
 let _:=e
 cases h with|str _ b hb=>
 have hl:s.length=b.size:=by rw[<-hb];simp
 refine⟨(b.data.map fun x=>Value.int .u8 x.toNat).toList,⟨by simp[hl],fun w' _=>?_⟩,fun i hi=>?_⟩
 ·simp only[Builtin.firstCells,Sem.run_pure]
  congr 1;have:(b.extract 0 (s.map Ai).length)=b:=by rw[jS,hl];simp
  rw[this]
 ·have hi':i<s.length:=jI
  have hg:(s.map Ai).getD i aK=Ai s[i]:=Lg
  rw[hg];refine⟨rfl,fun j hj=>?_⟩;obtain rfl:j=0:=ah
  have hib:i<b.size:=ah
  have hv:((b.data.map fun x=>Value.int .u8 x.toNat).toList).getD (i*1+0) undef= .int .u8 s[i].toNat:=by
   have e1:s[i]=b.data[i]'(by simpa using hib):=by subst hb;simp
   simp[List.getD,hib,e1]
  rw[hv];exact .int _ _
theorem amr (h:bA E B0 σ K w){loc:Loc}{s off len cap sz:Nat}{ag ER:Bool}{cs:List V}{cx:Value}(hx:Rel K σ.top w (.aJ loc s off len cap sz ER) cx)(hcs:σ.dB loc s=some cs)(hle:off+len*sz<=cs.length)(hag:(ag||sz==1)=true)(hone:dD cs=true\/ag=true):
 ∃cells,Src E.P w sz ((chunks ag sz len (cs.drop off)).map er).length cx cells/\nC K σ.top w sz ((chunks ag sz len (cs.drop off)).map er) cells:=by
 obtain⟨ho,hA,hks⟩:=h.yY hcs;obtain⟨_,gX,_⟩:=h.obj _ _ _ ho;have hlen:((chunks ag sz len (cs.drop off)).map er).length=len:=by rw[jS,y5]
 rw[hlen];cases hx with
 |l6=>exact⟨[],⟨aC,fun w' _=>by simp[Builtin.firstCells]⟩,fun i hi=>by rw[hlen] at hi;omega⟩
 |aJ _ _ _ _ _ _ _ eH hA' hcc hlc hsz=>
  by_cases h0:len*sz=0
  ·refine⟨[],⟨by simp[h0],fun w' _=>?_⟩,fun i hi=>?_⟩
   ·have:=run_firstCells_some (P:=E.P) w' sz len (at_ (K.blk s) off) len eH [] (by simp[h0]) (fun j v hj=>by simp at hj)
    simpa using this
   ·rw[hlen] at hi
    have hsz0:sz=0:=by
     rcases Nat.mul_eq_zero.1 h0 with h|h
     ·omega
     ·exact h
    subst hsz0;have hag':ag=true:=(by simpa using hag);subst hag';refine⟨?_,fun j hj=>absurd hj (gK j)⟩;have hi':i< (chunks true 0 len (cs.drop off)).length:=(by rw[y5];exact hi);have:((chunks true 0 len (cs.drop off)).map er).getD i aK=er ((chunks true 0 len (cs.drop off)).getD i aK):=Lg;rw[this,X8,XZ _ _ _ _ _ hi];simp[V.cells]
  ·obtain⟨_,vals,t,g1,g2,g3,g4⟩:=gX.2 (by rintro rfl;simp at hle;omega)
   refine⟨(List.range (len*sz)).map fun q=>vals.getD (off+q) undef,⟨aC,fun w' hw=>?_⟩,fun i hi=>?_⟩
   ·refine run_firstCells_some (P:=E.P) w' sz len (at_ (K.blk s) off) len eH _ aC (fun j v hj=>?_)
    have hjl:j<len*sz:=(by have:=(oC.1 hj).1;simpa using this);simp only[List.getElem?_map,List.getElem?_range hjl,Option.map_some,iE] at hj;subst hj;rw[addr_add,cell_of_heap (w:=w) (by rw[hw])];simp[World.cell?,g1,show off+j<vals.size by omega]
   ·rw[hlen] at hi
    have hi':i< (chunks ag sz len (cs.drop off)).length:=(by rw[y5];exact hi);have hge:((chunks ag sz len (cs.drop off)).map er).getD i aK=er ((chunks ag sz len (cs.drop off)).getD i aK):=Lg;rw[hge,X8];have hcc:=adX (cs:=cs.drop off) ag (n:=sz) (k:=len) (fun hf=>by subst hf;simpa using hag) jR (fun hf=>by
     rcases hone with h1|h1
     ·simp only[dD,kM] at h1⊢
      exact fun x hx=>h1 x (List.mem_of_mem_drop hx)
     ·subst h1;cases hf) hi
    have hlt:i*sz+sz<=len*sz:=by
     have:=tK sz (Nat.succ_le_of_lt hi)
     rwa[qO] at this
    refine⟨by rw[hcc];simp;omega,fun j hj=>?_⟩;refine ad9 (by rw[hcc];simp;omega) ?_;rw[hcc,xS _ hj,yZ,yZ];have hq:i*sz+j<len*sz:=ah;have:((List.range (len*sz)).map fun q=>vals.getD (off+q) undef).getD (i*sz+j) undef=vals.getD (off+(i*sz+j)) undef:=(by simp[List.getD,hq]);rw[this];exact g4 _ ah
structure Am (P:Program)(w:World)(sz n:Nat)(tx:TypeId)(z cx:Value)(news:List Value):Prop where
 len:news.length=n*sz
 one:∀u∈news,u.oneCell'=true
 kind:(((∃e',P.underlying tx=some (.slice e'))\/P.underlying tx=some .string)/\(∀w',(Builtin.lenOf cx).run P w'= .ok n w')/\∀w',w'.heap=w.heap->(Builtin.firstCells sz n cx).run P w'= .ok news.toArray w')\/
  ((∃k k',P.underlying tx=some (.int k)/\cx= .int k' n)/\news=(Builtin.zeroCells z.cells n).toList/\z.cells.size=sz)
theorem aeb (z:Array Value){n:Nat}(h:n*z.size=0):Builtin.zeroCells z n= #[]:=by simp[Builtin.zeroCells,h,Array.range_zero']
theorem aec {n:Nat}(h:n<=2^47):IntKind.i64.wrap (n:Int)=n:=Bp
theorem run_append_room' {P:Program}{w w':World}{t tx ty e:TypeId}{i:TypeInfo}{z:Value}{n sLen sCap:Nat}{cx:Value}{news:List Value}{base:Option Addr}(ht:P.underlying t=some (.slice e))(hi:P.info? e=some i)(hz:i.zero=some z)(hs:Am P w i.size n tx z cx news)(hn:n<=2^47)(hb:n*i.bytes<=2^47)(hroom:sLen+n<=sCap)(h1:∀a,base=some a->(storeCells (a.add (sLen*i.size)) news).run P w= .ok () w')(h2:base=none->w'=w):(Builtin.append_ #[t,tx] ty #[.slice base sLen sCap,cx]).run P w= .ok (.slice base (sLen+n) sCap) w':=by
 rcases hs.kind with ⟨hk,hl,hc⟩| ⟨⟨k,k',hk,rfl⟩,hc,hzs⟩
 ·have hc':=hc w rfl
  cases base with
  |none=>rw[h2 rfl];rcases hk with ⟨e',hk⟩|hk<;>simp[Builtin.append_,run_underlying ht,run_underlying hk,Go.sizeOf,typeInfo,hi,hl,hroom,hc']
  |some a=>have hst:=h1 a rfl;rcases hk with ⟨e',hk⟩|hk<;>simp[Builtin.append_,run_underlying ht,run_underlying hk,Go.sizeOf,typeInfo,hi,hl,hroom,hc',hst]
 ·have hw:=aec hn
  have hb':¬(281474976710656< (n:Int)*(i.bytes:Int)):=by have:=Int.ofNat_le.2 hb;simp at this;omega
  have hneg:¬((n:Int)<0):=ah
  by_cases h0:n*i.size=0
  ·have hnews:news=[]:=by rw[hc,aeb _ (by rw[hzs];exact h0)]
   subst hnews;cases base with
   |none=>rw[h2 rfl];simp[Builtin.append_,run_underlying ht,run_underlying hk,Go.sizeOf,typeInfo,hi,hroom,asInt,asIntOf,hw,hb',hneg,h0]|some a=>have hst:=h1 a rfl;simp[Builtin.append_,run_underlying ht,run_underlying hk,Go.sizeOf,typeInfo,hi,hroom,asInt,asIntOf,hw,hb',hneg,h0,hst]
  ·cases base with
   |none=>rw[h2 rfl];simp[Builtin.append_,run_underlying ht,run_underlying hk,Go.sizeOf,typeInfo,zeroValue,hi,hz,hroom,asInt,asIntOf,hw,hb',hneg]|some a=>have hst:=h1 a rfl;rw[hc] at hst;simp[Builtin.append_,run_underlying ht,run_underlying hk,Go.sizeOf,typeInfo,zeroValue,hi,hz,hroom,asInt,asIntOf,hw,hb',hneg,h0,hst]
theorem run_append_grow' {P:Program}{w:World}{t tx ty e:TypeId}{i:TypeInfo}{z:Value}{n sLen sCap:Nat}{cx:Value}{olds news:List Value}{base:Option Addr}(ht:P.underlying t=some (.slice e))(hi:P.info? e=some i)(hz:i.zero=some z)(hs:Am P w i.size n tx z cx news)(hold:∀w',w'.heap=w.heap->(Builtin.firstCells i.size sLen (.slice base sLen sCap)).run P w'= .ok olds.toArray w')(hn:sLen+n<=2^47)(hb:(sLen+n)*i.bytes<=2^47)(hroom:sCap<sLen+n):(Builtin.append_ #[t,tx] ty #[.slice base sLen sCap,cx]).run P w= .ok (.slice (some ⟨w.heap.size,0,none⟩) (sLen+n) (grownCap w (sLen+n) sCap e)) (w.drew.alloc (.cells ((olds++news).toArray++Builtin.zeroCells z.cells (grownCap w (sLen+n) sCap e-(sLen+n))) e)):=by
 have hnr:¬(sLen+n<=sCap):=ah
 have h63:¬(9223372036854775807< ((sLen:Int)+(n:Int))):=ah
 have h48:¬(281474976710656<Builtin.nextslicecap (sLen+n) sCap*i.bytes):=by have:=growslice_fits (bytes:=i.bytes) hroom ah;omega
 have hold':=hold w.drew rfl;have aBe:(olds++news).toArray=olds.toArray++news.toArray:=aC
 rcases hs.kind with ⟨hk,hl,hc⟩| ⟨⟨k,k',hk,rfl⟩,hc,hzs⟩
 ·have hc':=hc w.drew rfl
  rcases hk with ⟨e',hk⟩|hk<;>
   (simp[Builtin.append_,run_underlying ht,run_underlying hk,Go.sizeOf,typeInfo,zeroValue,hi,hz,hl,hnr,h63,h48,Question.forced,hc',hold',newRow,grownCap]
    congr 2;apply Array.ext';simp[jD])
 ·have hw:=aec (n:=n) ah
  have hnb:n*i.bytes<=2^47:=bZ (tK _ ah) hb;have hb':¬(281474976710656< (n:Int)*(i.bytes:Int)):=by have:=Int.ofNat_le.2 hnb;simp at this;omega
  have hneg:¬((n:Int)<0):=ah
  by_cases h0:n*i.size=0
  ·have hnews:news=[]:=by rw[hc,aeb _ (by rw[hzs];exact h0)]
   subst hnews;simp[Builtin.append_,run_underlying ht,run_underlying hk,Go.sizeOf,typeInfo,zeroValue,hi,hz,hnr,h63,h48,Question.forced,asInt,asIntOf,hw,hb',hneg,h0,hold',newRow,grownCap]
  ·subst hc
   simp[Builtin.append_,run_underlying ht,run_underlying hk,Go.sizeOf,typeInfo,zeroValue,hi,hz,hnr,h63,h48,Question.forced,asInt,asIntOf,hw,hb',hneg,h0,hold',newRow,grownCap];congr 2;apply Array.ext';simp[jD]
end
section
variable {E:Env}{B0:Nat}{σ:au}{K:aV}{w:World}{new:Nat->Prop}{T:Nat->Nat}
theorem Step.imp {new new' σ' K' w'}(h:Step E B0 new σ K w σ' K' w')(hn:∀s,new s->K.A s\/new' s):Step E B0 new' σ K w σ' K' w':=
 ⟨h.ok,h.ext,h.below,h.D,fun s hs=>(h.A s hs).elim .inl (hn s),h.qh,h.qj⟩
theorem aed {sz:Nat}{l ys:List V}{olds news:List Value}(h:nC K T w sz l olds)(g:nC K T w sz ys news)(hl:olds.length=l.length*sz):nC K T w sz (l++ys) (olds++news):=by
 intro i hi;by_cases h1:i<l.length
 ·rw[rY h1]
  refine⟨(h i h1).1,fun j hj=>?_⟩;have:=mul_lt h1 hj;rw[rY ah];exact(h i h1).2 j hj
 ·have h1':l.length<=i:=Nat.not_lt.1 h1
  have h2:i-l.length<ys.length:=GV
  rw[rZ h1'];refine⟨(g _ h2).1,fun j hj=>?_⟩;have hm:i*sz=(i-l.length)*sz+l.length*sz:=by rw[<-tJ];congr 1;omega
  rw[rZ ah,show i*sz+j-olds.length=(i-l.length)*sz+j by omega];exact(g _ h2).2 j hj
theorem aee {sz:Nat}{ys:List V}{news:List Value}(h:nC K T w sz ys news)(hl:news.length=ys.length*sz)(hone:ys.all (fun v=>dD v.cells)=true):∀u∈news,u.oneCell'=true:=by
 intro u hu;obtain⟨q,hq,rfl⟩:=GY.1 hu;have hsz:0<sz:=by
  rcases Nat.eq_zero_or_pos sz with h0|h0
  ·subst h0;omega
  ·exact h0
 have hi:q/sz<ys.length:=Nat.div_lt_of_lt_mul (by rw[Ab];omega);have hj:=Nat.mod_lt q hsz;obtain⟨h1,h2⟩:=h _ hi;have hr:=h2 _ hj;rw[Ab,Nat.div_add_mod,jZ hq] at hr;simp only[kM,dD] at hone;have h3:=hone _ (lY hi);rw[jZ hi] at h1 hr;have h4:=h3 _ (lY (show q% sz<_ by omega));rw[jZ ah] at hr;simpa using (adP hr h4).1
theorem ams (h:bA E B0 σ K w){ag:Bool}{sz n:Nat}{tx e:TypeId}{z:V}{y:V}{cy cz:Value}{ys:List V}{zeros:Bool}(hy:Rel K σ.top w y cy)(hz:Rel K σ.top w z cz)(hraw:fV z=true)(hzl:z.cells.length=sz)(hag:(ag||sz==1)=true)(hk:zeros=true->∃k,E.P.underlying tx=some (.int k))(hk':zeros=false->(∃e',E.P.underlying tx=some (.slice e'))\/E.P.underlying tx=some .string)(hzi:zeros=EK y)(hv:tO σ ag sz z y=some ys)(hone:ys.all (fun v=>dD v.cells)=true)(hn:n=ys.length):∃news,Am E.P w sz n tx cz cy news/\nC K σ.top w sz ys news:=by
 subst hn;let _:=e
 have fin:∀cells,Src E.P w sz ys.length cy cells->(∀w',(Builtin.lenOf cy).run E.P w'= .ok ys.length w')->zeros=false->nC K σ.top w sz ys cells->∃news,Am E.P w sz ys.length tx cz cy news/\nC K σ.top w sz ys news:=
  fun cells hs hl amt hr=>⟨cells,⟨hs.1,aee hr hs.1 hone,.inl ⟨hk' amt,hl,hs.2⟩⟩,hr⟩
 cases y with
 |int k m=>
  simp only[tO] at hv;split at hv
  ·rename_i hm
   simp only[iE] at hv;subst hv;cases hy;obtain⟨k',hk0⟩:=hk hzi;have hr:=RZ hz hraw hzl m.toNat;have hcs:cz.cells.size=sz:=by rw[<-(C8 hz hraw).1,hzl]
   have hzc:Builtin.zeroCells cz.cells m.toNat=(Array.range (m.toNat*sz)).map fun i=>cz.cells[i% cz.cells.size]! :=by unfold Builtin.zeroCells;rw[hcs]
   have hlen:(List.replicate m.toNat z).length=m.toNat:=List.length_replicate;have hrc:nC K σ.top w sz (List.replicate m.toNat z) (Builtin.zeroCells cz.cells m.toNat).toList:=by intro i hi;rw[hlen] at hi;have hg:(List.replicate m.toNat z).getD i aK=z:=(by simp[List.getD,hi]);rw[hg];refine⟨hzl,fun j hj=>?_⟩;have hq:=mul_lt hi hj;have:=hr.2 (i*sz+j) (by simp[hzl];exact hq);have hm:(i*sz+j)% sz=j:=(by rw[Ab,Nat.mul_add_mod,Nat.mod_eq_of_lt hj]);rw[X7 z.cells sz hzl ah _ _ hq,hm] at this;rw[hzc,RX];exact this
   have hnl:(Builtin.zeroCells cz.cells m.toNat).toList.length=m.toNat*sz:=by rw[hzc];simp
   refine⟨_,⟨by rw[hlen];exact hnl,aee hrc (by rw[hlen];exact hnl) hone,.inr ⟨⟨k',k,hk0,?_⟩,by rw[hlen],hcs⟩⟩,hrc⟩;rw[hlen,Int.toNat_of_nonneg hm.1]
  ·simp at hv
 |ay c l=>
  simp only[tO] at hv;split at hv
  ·rename_i hs
   simp only[iE] at hv;subst hv;obtain⟨cells,h1,h2⟩:=amn (E:=E) hy hs;refine fin cells h1 (fun w'=>?_) hzi h2;cases hy<;>rfl
  ·simp at hv
 |str s=>
  simp only[tO] at hv;split at hv
  ·rename_i hs
   simp only[iE] at hv;subst hv;subst hs;obtain⟨cells,h1,h2⟩:=amq (E:=E) (e:=e) hy;refine fin cells h1 (fun w'=>?_) hzi h2;cases hy with|str _ b hb=>
   subst hb;simp[Builtin.lenOf]
  ·simp at hv
 |aJ loc s off len cap bS ER=>
  simp only[tO] at hv;split at hv
  ·simp at hv
  ·rename_i he
   have he:bS=sz:=by simpa using he
   subst he;simp only[iR] at hv;obtain⟨cs,hcs,hv⟩:=hv;split at hv
   ·rename_i hc
    simp only[iE] at hv;subst hv;obtain⟨cells,h1,h2⟩:=amr h hy hcs hc.1 hag hc.2;refine fin cells h1 (fun w'=>?_) hzi h2;rw[jS,y5];cases hy<;>rfl
   ·simp at hv
 |_=>simp[tO] at hv
theorem Step.aef {E B0 σ K w}(h:bA E B0 σ K w)(s T' b lo:Nat)(hs:¬K.A s):
 Step E B0 (· =s) σ K w (σ.dZ s T') {K with A:=fun x=>K.A x\/x=s,ob:=upd K.ob s b,lo:=upd K.lo s lo,hi:=upd K.hi s lo} w:=by
 have hne:∀x,K.A x->x≠s:=fun x hx e=>hs (e▸hx);have e:Ext K σ.top w {K with A:=fun x=>K.A x\/x=s,ob:=upd K.ob s b,lo:=upd K.lo s lo,hi:=upd K.hi s lo} (σ.dZ s T').top w:=
  ⟨fun _ h=>⟨.inl h,rfl,rfl,rfl⟩,fun x hx=>.inl ⟨upd_ne _ _ (hne x hx),upd_ne _ _ (hne x hx),upd_ne _ _ (hne x hx),upd_ne _ _ (hne x hx)⟩,fun b i hi=>⟨hi,rfl⟩,fun b hb=>⟨hb,rfl⟩⟩
 refine⟨?_,e,.refl _ _,fun b hb=>hb,fun _ h=>h,fun b o hi=>.inl hi,fun _ h=>.inl h⟩;refine⟨fun loc x ob hx=>?_,fun x hx hlt=>?_,h.I,h.IM,fun l r hl=>?_,fun g cs hg=>(h.glob g cs hg).ext e,h.rb,h.D⟩
 ·obtain⟨a1,a2,a3⟩:=h.obj loc x ob hx
  exact⟨.inl a1,a2.ext e a1 (fun _=>rfl),a3⟩
 ·by_cases hxs:x=s
  ·subst hxs;simp only[upd_same] at hlt;omega
  ·simp only[upd_ne _ _ hxs] at hlt
   have:=h.own x (hx.resolve_right hxs) hlt;exact⟨by simpa only[upd_ne _ _ hxs] using this.1,by simpa only[upd_ne _ _ hxs] using this.2.1,
    fun o p q=>by simpa only[upd_ne _ _ hxs] using this.2.2 o (by simpa only[upd_ne _ _ hxs] using p) (by simpa only[upd_ne _ _ hxs] using q)⟩
 ·obtain⟨a1,a2⟩:=h.loop l r hl
  exact⟨.inl a1,a2.ext e a1 rfl rfl⟩
theorem bA.drew (h:bA E B0 σ K w):bA E B0 σ K w.drew:=h.same rfl
theorem Step.draw (h:bA E B0 σ K w):Step E B0 new σ K w σ K w.drew:=Step.same h rfl rfl rfl rfl
theorem aeg {olds news:List Value}{zs:Array Value}{q:Nat}(hq:q< (olds++news).length):((olds++news).toArray++zs).getD q undef=(olds++news).getD q undef:=by
 have:q< ((olds++news).toArray++zs).size:=by simp at hq⊢;omega
 have hl:q< (olds++news).toArray.size:=by simpa using hq
 simp only[Array.getD,this,dif_pos];show ((olds++news).toArray++zs)[q]=_;rw[Array.getElem_append_left hl,jZ hq];simp
theorem R5 (h:bA E B0 σ K w)(hB:B0<=w.heap.size){t tx ty e:TypeId}{i:TypeInfo}{z:Value}{n sLen sCap s:Nat}{cx:Value}{olds news:List Value}{base:Option Addr}{l ys:List V}(ht:E.P.underlying t=some (.slice e))(hi:E.P.info? e=some i)(hz:i.zero=some z)(hzs:z.cells.size=i.size)(hl:sLen=l.length)(hn:n=ys.length)(hs:Am E.P w i.size n tx z cx news)(hold:∀w',w'.heap=w.heap->(Builtin.firstCells i.size sLen (.slice base sLen sCap)).run E.P w'= .ok olds.toArray w')(hol:olds.length=sLen*i.size)(h47:sLen+n<=2^47)(hb:(sLen+n)*i.bytes<=2^47)(hroom:sCap<sLen+n)(rl:nC K σ.top w i.size l olds)(ry:nC K σ.top w i.size ys news)(hst:¬K.A s\/σ.top s<sLen+n):
 Done E B0 (· =s) σ K w (Builtin.append_ #[t,tx] ty #[.slice base sLen sCap,cx]) (.ay (.own i.size s) (l++ys)) (σ.dZ s (sLen+n)):=by
 have hrun:=run_append_grow' (ty:=ty) ht hi hz hs hold h47 hb hroom;have hge:=grownCap_ge w (sLen+n) sCap e;generalize grownCap w (sLen+n) sCap e=nc at hrun hge;have hlen:(olds++news).length=(sLen+n)*i.size:=by rw[bE,hol,hs.len,tJ]
 have hvs:((olds++news).toArray++Builtin.zeroCells z.cells (nc-(sLen+n))).size=nc*i.size:=by
  rw[Array.size_append];have:(olds++news).toArray.size=(sLen+n)*i.size:=by simpa using hlen
  rw[this];simp only[Builtin.zeroCells,Array.size_map,Array.size_range,hzs];rw[<-tJ];congr 1;omega
 have hlo:(sLen+n)*i.size<=((olds++news).toArray++Builtin.zeroCells z.cells (nc-(sLen+n))).size:=by rw[hvs];exact tK _ hge
 have hstep:=(Step.draw (new:=(· =s)) h).trans (Step.adM (w:=w.drew) h.drew hB s (sLen+n) hst ((olds++news).toArray++Builtin.zeroCells z.cells (nc-(sLen+n))) e ((sLen+n)*i.size) hlo);have hll:(l++ys).length=sLen+n:=by rw[bE,hl,hn]
 have rc:=(aed rl ry (by rw[hol,hl])).ext hstep.ext;refine⟨_,_,_,hrun,?_,hstep⟩;have key:Rel (K.CZ s w.drew.heap.size ((sLen+n)*i.size) ((olds++news).toArray++Builtin.zeroCells z.cells (nc-(sLen+n))).size) (σ.dZ s (sLen+n)).top
  (w.drew.alloc (.cells ((olds++news).toArray++Builtin.zeroCells z.cells (nc-(sLen+n))) e)) (.ay (.own i.size s) (l++ys)) (.slice (some (at_ w.heap.size 0)) (l++ys).length nc):=by
  refine .ay _ _ w.heap.size 0 i.size nc (fun p q=>(olds++news).getD (p*i.size+q) undef) ah (fun p hp=>(rc p hp).1) (fun p q hp hq=>?_) (fun p q hp hq=>(rc p hp).2 q hq) ?_
  ·have hpq:=mul_lt (hll▸hp) hq
   refine⟨?_,.inr ⟨rfl,ah⟩⟩;have:=LP (w:=w.drew) (vals:=(olds++news).toArray++Builtin.zeroCells z.cells (nc-(sLen+n))) (t:=e) (fz:=(0,0)) (i:=p*i.size+q) ah;rw[aeg ah] at this;rw[nS];exact this
  ·refine⟨rfl,.inr rfl,?_,fun _=>⟨?_,?_,?_⟩⟩
   ·show _<=upd σ.top s _ s
    rw[upd_same,hll];exact RS _
   ·show upd K.ob s _ s=_
    rw[upd_same];rfl
   ·show upd K.lo s _ s=_
    rw[upd_same,hll,nS]
   ·show upd K.hi s _ s=_
    rw[upd_same,hvs,nS]
 rw[hll] at key;exact key
theorem amu (b o:Nat)(v:Value)(w:World):Only b w (w.setCell ⟨b,o,none⟩ v):=
 ⟨rfl,rfl,rfl,by simp[World.setCell],fun k hk _=>by simp[World.setCell,Array.getElem?_modify,Ne.symm hk],RS _⟩
theorem Only.trans {b:Nat}{w w1 w2:World}(h:Only b w w1)(g:Only b w1 w2):Only b w w2:=
 ⟨g.os.trans h.os,g.tape.trans h.tape,g.output.trans h.output,bZ h.size g.size,fun k hk hl=>(g.block k hk (iq hl h.size)).trans (h.block k hk hl),bZ h.dr g.dr⟩
theorem aeh (b:Nat):∀(vs:List Value)(o:Nat)(w:World),Only b w (w.setCells b o vs)
 | [],_,_=>⟨rfl,rfl,rfl,RS _,fun _ _ _=>rfl,RS _⟩
 |v::r,o,w=>(amu b o v w).trans (aeh b r (o+1) _)
theorem amv (h:bA E B0 σ K w)(hB:B0<=w.heap.size){t tx ty e:TypeId}{i:TypeInfo}{z:Value}{b o cap s:Nat}{cx:Value}{news:List Value}{l ys:List V}(ht:E.P.underlying t=some (.slice e))(hi:E.P.info? e=some i)(hz:i.zero=some z)(hsz:0<i.size)(hys:ys≠[])(hx:Rel K σ.top w (.ay (.own i.size s) l) (.slice (some (at_ b o)) l.length cap))(hhead:qR i.size l=true)(hs:Am E.P w i.size ys.length tx z cx news)(h47:ys.length<=2^47)(hb:ys.length*i.bytes<=2^47)(hroom:l.length+ys.length<=cap)(ry:nC K σ.top w i.size ys news)(hT:σ.top s=l.length):
 Done E B0 new σ K w (Builtin.append_ #[t,tx] ty #[.slice (some (at_ b o)) l.length cap,cx]) (.ay (.own i.size s) (l++ys)) (σ.dZ s (l.length+ys.length)):=by
 have hyl:0<ys.length:=CP.2 hys;have hnl:0<news.length:=by rw[hs.len];exact Nat.mul_pos hyl hsz
 generalize hgl:l.length=ln at hx;cases hx with
 |fu _ a ha hc=>omega|ay _ _ _ _ n _ val hle hn hcell hrel hc=>
 obtain⟨hc1,hA,_,hc2⟩:=hc;obtain⟨c1,c2,c3⟩:=hc2 hT.symm;subst hc1;have hsum:(l.length+ys.length)*i.size=l.length*i.size+ys.length*i.size:=tJ _ _ _;have aBf:=tK i.size hroom;have hlt:K.lo s<K.hi s:=by rw[c2,c3];have:=hs.len;omega
 obtain⟨o1,o2,o3⟩:=h.own s hA hlt;have R6:∀j,j<news.length->(∃v,w.cell? (at_ b (o+l.length*i.size+j))=some v)/\w.frozen? (at_ b (o+l.length*i.size+j))=false:=by intro j hj;have:=o3 (o+l.length*i.size+j) ah (by have:=hs.len;omega);rw[c1] at this;exact this.2
 have hst:=run_storeCells_cells (P:=E.P) b (o+l.length*i.size) news 0 w (fun j hj=>by obtain⟨v,hv⟩:=(R6 j hj).1;rw[Nat.add_zero,hv];rfl) (fun j hj=>by rw[Nat.add_zero];exact(R6 j hj).2) hs.one;simp only[Nat.add_zero] at hst;have hrun:=run_append_room' (ty:=ty) (sLen:=l.length) (base:=some (at_ b o)) (w':=w.setCells b (o+l.length*i.size) news) ht hi hz hs h47 hb hroom (fun a ha=>by simp only[iE] at ha;subst ha;rw[addr_add];exact hst) (fun hn=>by cases hn);have hstep:=Step.EO (new:=new) h hB (s:=s) (n:=news.length) (T':=l.length+ys.length) (w':=w.setCells b (o+l.length*i.size) news) hA ah hnl (by rw[c2,c3,hs.len];omega) (by rw[c1];exact aeh b news _ w)
  (fun q h1 h2=>by rw[c1];have:=World.cell?_setCells_in b news (o+l.length*i.size) w (fun j hj=>by obtain⟨v,hv⟩:=(R6 j hj).1;rw[hv];rfl) (q-(o+l.length*i.size)) ah;rw[show o+l.length*i.size+(q-(o+l.length*i.size))=q by omega] at this;exact⟨_,this⟩)
  (fun q hq=>by rw[c1];exact World.cell?_setCells_out b news _ w _ (fun _ _=>by show q<_\/_<=q;omega))
  (fun q=>World.frozen?_setCells b news _ w _)
 refine⟨_,_,_,hrun,?_,hstep⟩;have hll:(l++ys).length=l.length+ys.length:=bE;have key:Rel (K.EO s news.length) (σ.dZ s (l.length+ys.length)).top (w.setCells b (o+l.length*i.size) news) (.ay (.own i.size s) (l++ys)) (.slice (some (at_ b o)) (l++ys).length cap):=by
  refine .ay _ _ b o i.size cap (fun p q=>if p<l.length then val p q else news.getD ((p-l.length)*i.size+q) undef) ah (fun p hp=>?_) (fun p q hp hq=>?_) (fun p q hp hq=>?_) ?_
  ·by_cases h1:p<l.length
   ·rw[rY h1];exact hn p h1
   ·rw[rZ (Nat.not_lt.1 h1)];exact(ry _ ah).1
  ·by_cases h1:p<l.length
   ·obtain⟨g1,g2⟩:=hcell p q h1 hq
    obtain⟨e1,e2⟩:=hstep.ext.I _ _ g2;simp only[h1,if_true];exact⟨e2.trans g1,e1⟩
   ·have h2:p-l.length<ys.length:=ah
    have hpq:=mul_lt h2 hq;have hm:p*i.size=(p-l.length)*i.size+l.length*i.size:=(by rw[<-tJ];congr 1;omega);simp only[h1,if_false];refine⟨?_,.inr ⟨c1.symm,ah,by have:=hs.len;omega⟩⟩;have hlt':(p-l.length)*i.size+q<news.length:=(by rw[hs.len];exact hpq);have:=World.cell?_setCells_in b news (o+l.length*i.size) w (fun j hj=>by obtain⟨v,hv⟩:=(R6 j hj).1;rw[hv];rfl) ((p-l.length)*i.size+q) hlt';rw[jZ hlt',<-this];congr 2;omega
  ·by_cases h1:p<l.length
   ·rw[rY h1]
    simp only[h1,if_true];exact(hrel p q h1 hq).ext hstep.ext
   ·rw[rZ (Nat.not_lt.1 h1)]
    simp only[h1,if_false];exact((ry _ ah).2 q hq).ext hstep.ext
  ·refine⟨rfl,hA,?_,fun _=>⟨c1,?_,?_⟩⟩
   ·show _<=upd σ.top s _ s
    rw[upd_same,hll];exact RS _
   ·show upd K.lo s _ s=_
    rw[upd_same,hll,c2,hs.len];omega
   ·exact c3
 rw[hll] at key;exact key
end
section
variable {E:Env}{B0:Nat}{σ:au}{K:aV}{w:World}{new:Nat->Prop}{T:Nat->Nat}
theorem LZ {c:Cap}{l:List V}{cx:Value}{sz:Nat}(hx:Rel K T w (.ay c l) cx)(hs:qR sz l=true)(hc:∀n s,c= .own n s->n=sz):(∃a,cx= .slice a 0 0/\(c= .nil->a=none)/\l=[]/\LG K T c)\/∃(b o cap:Nat) (val:Nat->Nat->Value),cx= .slice (some (at_ b o)) l.length cap/\l.length<=cap/\(∀i,i<l.length->(l.getD i aK).cells.length=sz)/\ (∀i j,i<l.length->j<sz->w.cell? (at_ b (o+i*sz+j))=some (val i j)/\K.I b (o+i*sz+j))/\ (∀i j,i<l.length->j<sz->Rel K T w ((l.getD i aK).cells.getD j aK) (val i j))/\vZ K T c sz b o l.length cap:=by
 cases hx with
 |fu _ a ha hcn=>exact .inl ⟨a,rfl,ha,rfl,hcn⟩|ay _ _ b o n cap val hle hn hcell hrel hcap=>
  right;by_cases h0:l=[]
  ·subst h0
   refine⟨b,o,cap,val,rfl,hle,fun i hi=>absurd hi (gK i),fun i j hi=>absurd hi (gK i),fun i j hi=>absurd hi (gK i),?_⟩;cases c with
   |own n' s=>have h1:=hc n' s rfl;have h2:=hcap.1;have:n=sz:=ah;rw[<-this];exact hcap|sh=>trivial|full=>exact hcap|nil=>exact hcap
  ·obtain rfl:=XY hs hn (CP.2 h0)
   exact⟨b,o,cap,val,rfl,hle,hn,hcell,hrel,hcap⟩
theorem aei {P:Program}{e:TypeId}{sz bs:Nat}{z:V}(h1:eX P e=some sz)(h2:Ah P e=some bs)(h3:kR P e=some z):∃i cz,P.info? e=some i/\i.size=sz/\i.bytes=bs/\i.zero=some cz/\ofValue cz=some z:=by unfold eX at h1;unfold Ah at h2;unfold kR at h3;simp only[aZ,iR] at h1 h2 h3;obtain⟨i,hi,e1⟩:=h1;obtain⟨i',hi',e2⟩:=h2;obtain⟨cz,⟨aBg,aej,e3⟩,e4⟩:=h3;rw[hi] at hi' aej;cases hi';cases aej;exact⟨i,cz,hi,e1,e2,e3,e4⟩
theorem R7 {sz n cap:Nat}{b o:Nat}{val:Nat->Nat->Value}(hcell:∀i j,i<n->j<sz->w.cell? (at_ b (o+i*sz+j))=some (val i j))(w':World)(hw:w'.heap=w.heap):(Builtin.firstCells sz n (.slice (some (at_ b o)) n cap)).run E.P w'= .ok ((List.range (n*sz)).map fun q=>val (q/sz) (q% sz)).toArray w':=by
 refine run_firstCells_some (P:=E.P) w' sz n (at_ b o) n cap _ aC (fun j v hj=>?_);have hjl:j<n*sz:=by have:=(oC.1 hj).1;simpa using this
 have hn0:0<sz:=by
  rcases Nat.eq_zero_or_pos sz with h|h
  ·subst h;simp at hjl
  ·exact h
 simp[hjl] at hj;subst hj;rw[addr_add];have:=hcell (j/sz) (j% sz) (Nat.div_lt_of_lt_mul (by rw[Ab];exact hjl)) (Nat.mod_lt _ hn0);rw[cell_of_heap (w:=w) (by rw[hw])]
 rwa[uP,Ab,Nat.div_add_mod] at this
theorem X9 {l:List V}{sz:Nat}{val:Nat->Nat->Value}(hn:∀i,i<l.length->(l.getD i aK).cells.length=sz)(hrel:∀i j,i<l.length->j<sz->Rel K T w ((l.getD i aK).cells.getD j aK) (val i j)):
 nC K T w sz l ((List.range (l.length*sz)).map fun q=>val (q/sz) (q% sz)):=
 fun i hi=>⟨hn i hi,fun j hj=>by rw[aea hi hj];exact hrel i j hi hj⟩
theorem Db {t tx ty e:TypeId}{i:TypeInfo}{z cx:Value}{news:List Value}{n sLen sCap:Nat}{base:Option Addr}(ht:E.P.underlying t=some (.slice e))(hi:E.P.info? e=some i)(hz:i.zero=some z)(hs:Am E.P w i.size n tx z cx news)(hn:n=0)(hle:sLen<=sCap):(Builtin.append_ #[t,tx] ty #[.slice base sLen sCap,cx]).run E.P w= .ok (.slice base sLen sCap) w:=by
 subst hn;have h0:news=[]:=lZ (by rw[hs.len];simp);subst h0;exact run_append_room' (w':=w) (base:=base) ht hi hz hs ah aC ah (fun a _=>rfl) (fun _=>rfl)
theorem amw (s n:Nat)(h:σ.top s=n):σ.dZ s n=σ:=by
 unfold au.dZ;have:upd σ.top s n=σ.top:=by
  funext x;unfold upd;split
  ·rename_i hx;rw[hx,h]
  ·rfl
 rw[this]
theorem amx (h:bA E B0 σ K w)(hB:B0<=w.heap.size){t tx ty e:TypeId}{i:TypeInfo}{z:Value}{st:Nat}{c:Cap}{l ys:List V}{cx cy:Value}{news:List Value}{v:V}{σ':au}(ht:E.P.underlying t=some (.slice e))(hi:E.P.info? e=some i)(hz:i.zero=some z)(hzs:z.cells.size=i.size)(hsz:0<i.size)(hst:¬K.A st)(hx:Rel K σ.top w (.ay c l) cx)(hs:Am E.P w i.size ys.length tx z cy news)(ry:nC K σ.top w i.size ys news)(h47:l.length+ys.length<=2^47)(hb:(l.length+ys.length)*i.bytes<=2^47)(hhead:qR i.size l=true)(hv:(match c with
   |.own n s=>if n=i.size/\σ.top s=l.length then some (.ay (.own n s) (l++ys),σ.dZ s (l.length+ys.length)) else none|.nil|.full=>some (.ay (.own i.size st) (l++ys),σ.dZ st (l.length+ys.length))|.sh=>none)=some (v,σ')):
 Done E B0 (· =st) σ K w (Builtin.append_ #[t,tx] ty #[cx,cy]) v σ':=by
 have hb':ys.length*i.bytes<=2^47:=bZ (tK _ (Nat.le_add_left _ _)) hb;have imp:∀{s:Nat}{m:Sem Value}{v:V}{σ':au},K.A s->Done E B0 (· =s) σ K w m v σ'->Done E B0 (· =st) σ K w m v σ':=by rintro s m v σ' hA ⟨a,b,c,d,e,f⟩;exact⟨a,b,c,d,e,f.imp fun x hx=>.inl (hx▸hA)⟩
 have fresh:∀cx,Rel K σ.top w (.ay .full l) cx\/(∃a,cx= .slice a 0 0/\l=[])->Done E B0 (· =st) σ K w (Builtin.append_ #[t,tx] ty #[cx,cy]) (.ay (.own i.size st) (l++ys)) (σ.dZ st (l.length+ys.length)):=by
  intro cx hx;have hx':(∃a,cx= .slice a 0 0/\l=[])\/∃(b o:Nat) (val:Nat->Nat->Value),cx= .slice (some (at_ b o)) l.length l.length/\(∀p,p<l.length->(l.getD p aK).cells.length=i.size)/\
   (∀p j,p<l.length->j<i.size->w.cell? (at_ b (o+p*i.size+j))=some (val p j)/\K.I b (o+p*i.size+j))/\
   (∀p j,p<l.length->j<i.size->Rel K σ.top w ((l.getD p aK).cells.getD j aK) (val p j)):=by
   rcases hx with hx|hx
   ·rcases LZ hx hhead (fun n s hh=>by cases hh) with ⟨a,h1,_,h2,_⟩| ⟨b,o,cap,val,h1,h2,h3,h4,h5,h6⟩
    ·exact .inl ⟨a,h1,h2⟩
    ·have h6:cap=l.length:=h6
     subst h6;exact .inr ⟨b,o,val,h1,h3,h4,h5⟩
   ·exact .inl hx
  rcases hx' with ⟨a,rfl,rfl⟩| ⟨b,o,val,rfl,h3,h4,h5⟩
  ·by_cases hys:ys=[]
   ·subst hys
    have hrun:=Db (ty:=ty) (base:=a) (sLen:=0) (sCap:=0) ht hi hz hs rfl (RS _);have hstep:=Step.aef h st 0 0 0 hst;refine⟨_,_,_,hrun,?_,hstep⟩;exact .fu _ a (fun h=>bC) ⟨Or.inr rfl,fun _=>by simp only[upd_same]⟩
   ·have hl:0<ys.length:=CP.2 hys
    have:=R5 (ty:=ty) (base:=a) (olds:=[]) (l:=[]) (sLen:=0) (sCap:=0) h hB ht hi hz hzs rfl rfl hs (fun w' _=>R4 w' i.size a) aC (by simpa using h47) Cz ah (fun p hp=>absurd hp (gK p)) ry (.inl hst);simpa using this
  ·by_cases hys:ys=[]
   ·subst hys
    have hrun:=Db (ty:=ty) (base:=some (at_ b o)) (sLen:=l.length) (sCap:=l.length) ht hi hz hs rfl (RS _);have hstep:=Step.aef h st (l.length+0) b (o+l.length*i.size) hst;refine⟨_,_,_,hrun,?_,hstep⟩;rw[lF];refine .ay _ _ b o i.size l.length val (RS _) h3 (fun p j hp hj=>h4 p j hp hj) (fun p j hp hj=>(h5 p j hp hj).ext hstep.ext) ⟨rfl,.inr rfl,?_,fun _=>⟨?_,?_,?_⟩⟩
    ·show _<=upd σ.top st _ st
     rw[upd_same];exact RS _
    ·exact upd_same _ _ _
    ·exact upd_same _ _ _
    ·exact upd_same _ _ _
   ·have hl:0<ys.length:=CP.2 hys
    exact R5 (ty:=ty) (base:=some (at_ b o)) h hB ht hi hz hzs rfl rfl hs (fun w' hw=>R7 (fun p j hp hj=>(h4 p j hp hj).1) w' hw) aC h47 hb ah (X9 h3 h5) ry (.inl hst)
 cases c with
 |sh=>simp at hv|nil=>
  simp only[iE,aP] at hv;obtain⟨rfl,rfl⟩:=hv;refine fresh cx (.inr ?_);cases hx with
  |fu _ a ha _=>exact⟨a,rfl,rfl⟩|ay _ _ _ _ _ _ _ _ _ _ _ hc=>exact hc.elim
 |full=>simp only[iE,aP] at hv;obtain⟨rfl,rfl⟩:=hv;exact fresh cx (.inl hx)
 |own n s=>
  simp only at hv;split at hv
  ·rename_i hc
   obtain⟨rfl,hT⟩:=hc;simp only[iE,aP] at hv;obtain⟨rfl,rfl⟩:=hv;by_cases hys:ys=[]
   ·subst hys
    have e1:σ.dZ s (l.length+([]:List V).length)=σ:=amw s _ hT;rw[e1,lF];rcases LZ hx hhead (fun n s hh=>by cases hh;rfl) with ⟨a,rfl,_,rfl,_⟩| ⟨b,o,cap,val,rfl,h2,_⟩
    ·exact⟨_,_,_,Db (ty:=ty) (base:=a) (sLen:=0) (sCap:=0) ht hi hz hs rfl (RS _),hx,.refl h⟩
    ·exact⟨_,_,_,Db (ty:=ty) (base:=some (at_ b o)) ht hi hz hs rfl h2,hx,.refl h⟩
   ·have hl:0<ys.length:=CP.2 hys
    rcases LZ hx hhead (fun n s hh=>by cases hh;rfl) with ⟨a,rfl,_,rfl,hcn⟩| ⟨b,o,cap,val,rfl,h2,h3,h4,h5,h6⟩
    ·have:=R5 (ty:=ty) (base:=a) (olds:=[]) (l:=[]) (sLen:=0) (sCap:=0) (s:=s) h hB ht hi hz hzs rfl rfl hs (fun w' _=>R4 w' i.size a) aC (by simpa using h47) Cz ah (fun p hp=>absurd hp (gK p)) ry (.inr (by simp at hT;omega))
     simpa using imp hcn.1 this
    ·by_cases hr:l.length+ys.length<=cap
     ·exact amv (ty:=ty) h hB ht hi hz hsz hys hx hhead hs ah hb' hr ry hT
     ·exact imp h6.2.1 (R5 (ty:=ty) (base:=some (at_ b o)) (s:=s) h hB ht hi hz hzs rfl rfl hs (fun w' hw=>R7 (fun p j hp hj=>(h4 p j hp hj).1) w' hw) aC h47 hb ah (X9 h3 h5) ry (.inr ah))
  ·simp at hv
end
section
variable {E:Env}{B0:Nat}{σ:au}{K:aV}{w:World}{new:Nat->Prop}{T:Nat->Nat}
theorem Step.eG (h:bA E B0 σ K w)(loc:Loc):Step E B0 new σ K w (σ.eG loc) K w:=by
 refine⟨⟨fun loc' s ob hs=>?_,h.own,h.I,h.IM,h.loop,h.glob,h.rb,h.D⟩,.refl _ _ _,.refl _ _,fun _ h=>h,fun _ h=>.inl h,fun _ _ h=>.inl h,fun _ h=>.inl h⟩;by_cases hl:loc'=loc
 ·subst hl;simp[au.eG,upd_same] at hs
 ·simp only[au.eG,upd_ne _ _ hl] at hs
  exact h.obj loc' s ob hs
theorem Step.amy (h:bA E B0 σ K w)(loc:Loc){st:Nat}(hst:¬K.A st):
 Step E B0 (· =st) σ K w (σ.setObj loc st (.cells [])) {K with A:=fun x=>K.A x\/x=st,sz:=upd K.sz st 0,lo:=upd K.lo st 0,hi:=upd K.hi st 0} w:=by
 have hne:∀x,K.A x->x≠st:=fun x hx e=>hst (e▸hx);have e:Ext K σ.top w {K with A:=fun x=>K.A x\/x=st,sz:=upd K.sz st 0,lo:=upd K.lo st 0,hi:=upd K.hi st 0} σ.top w:=
  ⟨fun x hx=>⟨.inl hx,rfl,rfl,upd_ne _ _ (hne x hx)⟩,fun x hx=>.inl ⟨rfl,rfl,upd_ne _ _ (hne x hx),upd_ne _ _ (hne x hx)⟩,fun b i hi=>⟨hi,rfl⟩,fun b hb=>⟨hb,rfl⟩⟩
 refine⟨?_,e,.refl _ _,fun b hb=>hb,fun _ h=>h,fun b o hi=>.inl hi,fun _ h=>.inl h⟩;refine⟨fun loc' x ob hx=>?_,fun x hx hlt=>?_,h.I,h.IM,fun l r hl=>?_,fun g cs hg=>(h.glob g cs hg).ext e,h.rb,h.D⟩
 ·by_cases hl:loc'=loc
  ·subst hl
   simp only[au.setObj,upd_same,iE,aP] at hx;obtain⟨rfl,rfl⟩:=hx;exact⟨.inr rfl,⟨fun _=>upd_same _ _ _,fun hn=>absurd rfl hn⟩,fun hr=>hr.elim⟩
  ·simp only[au.setObj,upd_ne _ _ hl] at hx
   obtain⟨a1,a2,a3⟩:=h.obj loc' x ob hx;exact⟨.inl a1,a2.ext e a1 (fun _=>rfl),a3⟩
 ·by_cases hxs:x=st
  ·subst hxs;simp only[upd_same] at hlt;omega
  ·simp only[upd_ne _ _ hxs] at hlt
   have:=h.own x (hx.resolve_right hxs) hlt;exact⟨this.1,this.2.1,fun o p q=>this.2.2 o (by simpa only[upd_ne _ _ hxs] using p) (by simpa only[upd_ne _ _ hxs] using q)⟩
 ·obtain⟨a1,a2⟩:=h.loop l r hl
  exact⟨.inl a1,a2.ext e a1 rfl rfl⟩
def xU (K:aV)(T:Nat->Nat)(w:World)(fl:List V)(cells:List Value):Prop:=fl.length=cells.length/\∀q,q<fl.length->Rel K T w (fl.getD q aK) (cells.getD q undef)
theorem xU.ext {K' T' w'}{fl:List V}{cells:List Value}(h:xU K T w fl cells)(e:Ext K T w K' T' w'):xU K' T' w' fl cells:=⟨h.1,fun q hq=>(h.2 q hq).ext e⟩
theorem xU.append {a b:List V}{x y:List Value}(h:xU K T w a x)(g:xU K T w b y):xU K T w (a++b) (x++y):=by
 refine⟨by simp[h.1,g.1],fun q hq=>?_⟩;by_cases h1:q<a.length
 ·rw[rY h1,rY (by have:=h.1;omega)];exact h.2 q h1
 ·rw[rZ ah,rZ (by have:=h.1;omega),<-h.1]
  exact g.2 _ (by simp at hq;omega)
theorem R8 {sz:Nat}:∀{l:List V}{cells:List Value},nC K T w sz l cells->cells.length=l.length*sz->xU K T w (l.flatMap V.cells) cells
 | [],cells,_,hl=>by have:cells=[]:=lZ yN;subst this;exact⟨rfl,fun q hq=>absurd hq (gK q)⟩
 |v::l,cells,h,hl=>by
  have hs:(l.length+1)*sz=l.length*sz+sz:=qO _ _;rw[List.length_cons,hs] at hl;obtain⟨h1,h2⟩:=h 0 aC;have h1:v.cells.length=sz:=h1;have e:cells=cells.take sz++cells.drop sz:=(tL _ _).symm;rw[e,ny];refine xU.append ⟨by simp[h1];omega,fun q hq=>?_⟩ (R8 (sz:=sz) (fun i hi=>?_) jR)
  ·have:=h2 q ah
   rw[xS _ ah];simpa using this
  ·obtain⟨g1,g2⟩:=h (i+1) jR
   refine⟨by simpa using g1,fun j hj=>?_⟩;have:=g2 j hj;rw[yZ];have e2:sz+(i*sz+j)=(i+1)*sz+j:=by rw[qO];omega
   rw[e2];simpa using this
theorem Ya (h:bA E B0 σ K w)(hB:B0<=w.heap.size){t tx ty e:TypeId}{i:TypeInfo}{z:Value}{n sLen sCap st:Nat}{loc:Loc}{ag:Bool}{cx:Value}{olds news:List Value}{base:Option Addr}{fl:List V}(ht:E.P.underlying t=some (.slice e))(hi:E.P.info? e=some i)(hz:i.zero=some z)(hzs:z.cells.size=i.size)(hsz:0<i.size)(hs:Am E.P w i.size n tx z cx news)(hold:∀w',w'.heap=w.heap->(Builtin.firstCells i.size sLen (.slice base sLen sCap)).run E.P w'= .ok olds.toArray w')(hol:olds.length=sLen*i.size)(h47:sLen+n<=2^47)(hb:(sLen+n)*i.bytes<=2^47)(hroom:sCap<sLen+n)(rf:xU K σ.top w fl (olds++news))(hst:¬K.A st):
 Done E B0 (· =st) σ K w (Builtin.append_ #[t,tx] ty #[.slice base sLen sCap,cx]) (.aJ loc st 0 (sLen+n) (sLen+n) i.size ag) (σ.setObj loc st (.cells fl)):=by
 have hrun:=run_append_grow' (ty:=ty) ht hi hz hs hold h47 hb hroom;have hge:=grownCap_ge w (sLen+n) sCap e;generalize grownCap w (sLen+n) sCap e=nc at hrun hge;have hlen:(olds++news).length=(sLen+n)*i.size:=by rw[bE,hol,hs.len,tJ]
 have hvs:((olds++news).toArray++Builtin.zeroCells z.cells (nc-(sLen+n))).size=nc*i.size:=by
  rw[Array.size_append];have:(olds++news).toArray.size=(sLen+n)*i.size:=by simpa using hlen
  rw[this];simp only[Builtin.zeroCells,Array.size_map,Array.size_range,hzs];rw[<-tJ];congr 1;omega
 have hfl:fl.length=(sLen+n)*i.size:=by rw[rf.1,hlen]
 have hpos:0< (sLen+n)*i.size:=Nat.mul_pos ah hsz;have hle:(sLen+n)*i.size<=nc*i.size:=tK _ hge;have hstep:=(Step.draw (new:=(· =st)) h).trans (Step.LK (w:=w.drew) h.drew hB hst loc (.cells fl) (.cells ((olds++news).toArray++Builtin.zeroCells z.cells (nc-(sLen+n))) e) (nc*i.size) (fun K' e' _ hb' hs'=>by refine⟨fun h0=>by rw[h0] at hfl;simp at hfl;omega,fun _=>⟨Lh,_,e,by rw[hb'];exact heap_alloc_new w.drew _,by rw[hs',hvs],by rw[hfl,hvs];exact hle,fun q hq=>?_⟩⟩;rw[aeg ah];have e0:Ext K σ.top w K σ.top w.drew:=(Step.draw (new:=fun _=>False) h).ext;exact(rf.2 q hq).ext (e0.trans e')));refine⟨_,_,_,hrun,?_,hstep⟩;have key:Rel (K.lK st w.drew.heap.size (nc*i.size) loc) (σ.setObj loc st (.cells fl)).top (w.drew.alloc (.cells ((olds++news).toArray++Builtin.zeroCells z.cells (nc-(sLen+n))) e)) (.aJ loc st 0 (sLen+n) (sLen+n) i.size ag)
  (.slice (some (at_ ((K.lK st w.drew.heap.size (nc*i.size) loc).blk st) 0)) (sLen+n) nc):=
  .aJ loc st 0 _ _ i.size ag nc (.inr rfl) hge (RS _) Ra
 have hblk:(K.lK st w.drew.heap.size (nc*i.size) loc).blk st=w.heap.size:=upd_same _ _ _;rw[hblk] at key;exact key
theorem aek {b:Nat}{vals:Array Value}{t:TypeId}{off:Nat}{news:List Value}(g1:w.heap[b]? =some (.cells vals t (0,0)))(hle:off+news.length<=vals.size)(hone:∀u∈news,u.oneCell'=true):
 ∃w' vals',(storeCells (at_ b off) news).run E.P w= .ok () w'/\Only b w w'/\w'.heap[b]? =some (.cells vals' t (0,0))/\vals'.size=vals.size/\
  ∀i,i<vals.size->vals'.getD i undef=if off<=i/\i<off+news.length then news.getD (i-off) undef else vals.getD i undef:=by
 have hrun:=run_storeCells_at E.P b off t news 0 vals w g1 ah hone;refine⟨_,_,hrun,?_,setRow_heap w b vals _ t (0,0) g1,jR,fun i EP=>?_⟩
 ·refine⟨rfl,rfl,rfl,by simp[World.setRow],fun k hk _=>?_,RS _⟩
  simp[World.setRow,Array.getElem?_modify,Ne.symm hk]
 ·have hl:(vals.toList.take (off+0)).length=off:=jR
  have harr:∀(l:List Value),l.toArray.getD i undef=l.getD i undef:=fun l=>by simp[Array.getD,List.getD];split<;>simp_all
  rw[harr,jD];by_cases h1:i<off
  ·rw[rY ah,xS _ ah,if_neg ah]
   simp[List.getD,Array.getD,EP]
  ·rw[rZ ah,hl]
   by_cases h2:i-off<news.length
   ·rw[rY h2,if_pos ah]
   ·rw[rZ ah,yZ,if_neg ah]
    have:off+0+news.length+(i-off-news.length)=i:=ah;rw[this];simp[List.getD,Array.getD,EP]
theorem ael {loc:Loc}{s:Nat}{ob:jo}(ho:σ.obj loc=some (s,ob)):σ.setObj loc s ob=σ:=by
 unfold au.setObj;have:upd σ.obj loc (some (s,ob))=σ.obj:=by
  funext l;unfold upd;split
  ·rename_i hl;rw[hl,ho]
  ·rfl
 rw[this]
theorem amA (h:bA E B0 σ K w)(hB:B0<=w.heap.size){loc:Loc}{s off:Nat}{cs fl:List V}{news:List Value}(hcs:σ.dB loc s=some cs)(rf:xU K σ.top w fl news)(hle:off+fl.length<=cs.length)(hone:∀u∈news,u.oneCell'=true):
 ∃w',(storeCells (at_ (K.blk s) off) news).run E.P w= .ok () w'/\Step E B0 new σ K w (σ.setObj loc s (.cells (jN cs off fl))) K w':=by
 obtain⟨ho,_,_⟩:=h.yY hcs;obtain⟨_,gX,_⟩:=h.obj _ _ _ ho;by_cases hne:cs=[]
 ·subst hne
  have h0:fl=[]:=by cases fl with|nil=>rfl|cons a b=>simp at hle
  subst h0;have h0':news=[]:=lZ (by rw[<-rf.1];rfl);subst h0';have hsp:jN [] off []=([]:List V):=by simp[jN]
  rw[hsp,ael ho];exact⟨w,rfl,.refl h⟩
 ·obtain⟨hb0,vals,t',g1,g2,g3,g4⟩:=gX.2 hne
  obtain⟨w',vals',r1,r2,r3,r4,r5⟩:=aek (E:=E) (off:=off) (news:=news) g1 (by have:=rf.1;omega) hone;refine⟨w',r1,Step.setCells h hB ho hne g1 r2 r3 r4 (by intro h0;have:=Da hle;rw[h0] at this;exact hne (lZ this.symm)) (by rw[Da hle,r4];exact g3) (fun e i hi=>?_)⟩;rw[Da hle] at hi;have hiv:i<vals.size:=iq hi g3;rw[X4 hle,r5 i hiv,<-rf.1];by_cases hh:off<=i/\i<off+fl.length
  ·rw[if_pos hh,if_pos hh]
   exact(rf.2 _ ah).ext e
  ·rw[if_neg hh,if_neg hh]
   exact(g4 i hi).ext e
end
section
variable {E:Env}{B0:Nat}{σ:au}{K:aV}{w:World}{new:Nat->Prop}{T:Nat->Nat}
theorem Yb {n b:Nat}(h:dG n b=true):n<=2^47/\n*b<=2^47:=by simp only[dG,iP,decide_eq_true_eq] at h;exact⟨h.2,h.1⟩
theorem amB {sz:Nat}{ys:List V}{news:List Value}(h:nC K T w sz ys news):(ys.flatMap V.cells).length=ys.length*sz:=by
 have:∀v∈ys,v.cells.length=sz:=fun v hv=>by
  obtain⟨i,hi,rfl⟩:=GY.1 hv;have:=(h i hi).1
  rwa[jZ hi] at this
 clear h;induction ys with
 |nil=>simp|cons a l ih=>rw[ny,bE,ih (fun v hv=>this v (by simp[hv])),this a aC,List.length_cons,qO];omega
theorem amC (h:bA E B0 σ K w){loc:Loc}{s:Nat}{cs:List V}(hcs:σ.dB loc s=some cs){n:Nat}(hn:n<=cs.length):
 ∃vals:Nat->Value,xU K σ.top w (cs.take n) ((List.range n).map vals)/\∀j,j<n->w.cell? (at_ (K.blk s) j)=some (vals j):=by
 obtain⟨ho,_,_⟩:=h.yY hcs;obtain⟨_,gX,_⟩:=h.obj _ _ _ ho;by_cases hne:cs=[]
 ·subst hne
  have:n=0:=by simpa using hn
  subst this;exact⟨fun _=>undef,⟨rfl,fun q hq=>absurd hq (gK q)⟩,fun j hj=>absurd hj (gK j)⟩
 ·obtain⟨hb0,vals,t',g1,g2,g3,g4⟩:=gX.2 hne
  refine⟨fun j=>vals.getD j undef,⟨jR,fun q hq=>?_⟩,fun j hj=>?_⟩
  ·have hq':q<n:=by simp at hq;omega
   rw[xS _ hq'];have:((List.range n).map fun j=>vals.getD j undef).getD q undef=vals.getD q undef:=by simp[List.getD,hq']
   rw[this];exact g4 q ah
  ·have:j<vals.size:=ah
   simp[World.cell?,g1,this]
theorem amD (h:bA E B0 σ K w)(hB:B0<=w.heap.size){t tx ty e:TypeId}{i:TypeInfo}{z:Value}{st s len cap:Nat}{jO loc:Loc}{ag ER:Bool}{ys cs:List V}{cx cy:Value}{news:List Value}{v:V}{σ':au}(ht:E.P.underlying t=some (.slice e))(hi:E.P.info? e=some i)(hz:i.zero=some z)(hzs:z.cells.size=i.size)(hsz:0<i.size)(hst:¬K.A st)(hx:Rel K σ.top w (.aJ jO s 0 len cap i.size ER) cx)(hs:Am E.P w i.size ys.length tx z cy news)(ry:nC K σ.top w i.size ys news)(h47:len+ys.length<=2^47)(hb:(len+ys.length)*i.bytes<=2^47)(hcs:σ.dB jO s=some cs)(hv:(if len+ys.length<=cap then if (len+ys.length)*i.size<=cs.length then some (V.aJ jO s 0 (len+ys.length) cap i.size ag,σ.setObj jO s (.cells (jN cs (len*i.size) (ys.flatMap V.cells))))else none else if len*i.size<=cs.length then some (.aJ loc st 0 (len+ys.length) (len+ys.length) i.size ag,(σ.eG jO).setObj loc st (.cells (cs.take (len*i.size)++ys.flatMap V.cells)))else none)=some (v,σ')):
 Done E B0 (· =st) σ K w (Builtin.append_ #[t,tx] ty #[cx,cy]) v σ':=by
 have hb':ys.length*i.bytes<=2^47:=bZ (tK _ (Nat.le_add_left _ _)) hb;have hfl:=amB ry;have L6:=R8 ry hs.len;have hsum:(len+ys.length)*i.size=len*i.size+ys.length*i.size:=tJ _ _ _;obtain⟨ho,hA,hks⟩:=h.yY hcs;split at hv
 ·rename_i hcap
  split at hv
  ·rename_i hle
   simp only[iE,aP] at hv;obtain⟨rfl,rfl⟩:=hv;cases hx with
   |l6=>have hys:ys=[]:=lZ ah;subst hys;have e1:jN cs (0*i.size) ([].flatMap V.cells)=cs:=(by simp[jN]);rw[e1,ael ho];exact⟨_,_,_,Db (ty:=ty) (base:=none) (sLen:=0) (sCap:=0) ht hi hz hs rfl (RS _),.l6 jO s i.size ag hA,.refl h⟩|aJ _ _ _ _ _ _ _ eH hA' hcc hlc aem=>obtain⟨w',r1,r2⟩:=amA (new:=(· =st)) h hB hcs L6 (off:=len*i.size) (by rw[hfl];omega) hs.one;have hrun:=run_append_room' (ty:=ty) (sLen:=len) (sCap:=eH) (base:=some (at_ (K.blk s) 0)) (w':=w') ht hi hz hs ah hb' ah (fun a ha=>by simp only[iE] at ha;subst ha;rw[addr_add,nS];exact r1) (fun hn=>by cases hn);exact⟨_,_,_,hrun,.aJ jO s 0 _ cap i.size ag eH hA hcc hcap aem,r2⟩
  ·simp at hv
 ·rename_i hcap
  split at hv
  ·rename_i hle
   simp only[iE,aP] at hv;obtain⟨rfl,rfl⟩:=hv;have grow:∀base eH,(∀w',w'.heap=w.heap->∀vals:Nat->Value,(∀j,j<len*i.size->w.cell? (at_ (K.blk s) j)=some (vals j))->(Builtin.firstCells i.size len (.slice base len eH)).run E.P w'= .ok ((List.range (len*i.size)).map vals).toArray w')->eH<len+ys.length->
    Done E B0 (· =st) σ K w (Builtin.append_ #[t,tx] ty #[.slice base len eH,cy]) (.aJ loc st 0 (len+ys.length) (len+ys.length) i.size ag) ((σ.eG jO).setObj loc st (.cells (cs.take (len*i.size)++ys.flatMap V.cells))):=by
    intro base eH hold hroom;obtain⟨vals,g1,g2⟩:=amC h hcs hle;have hd:=Step.eG (new:=(· =st)) h jO;obtain⟨a,b,c,d1,d2,d3⟩:=Ya (ty:=ty) (ag:=ag) (loc:=loc) (base:=base) (sLen:=len) (sCap:=eH) (σ:=σ.eG jO) (olds:=(List.range (len*i.size)).map vals) hd.ok hB ht hi hz hzs hsz hs (fun w' hw=>hold w' hw vals g2) aC h47 hb hroom ((g1.append L6).ext hd.ext) hst;exact⟨a,b,c,d1,d2,hd.trans d3⟩
   cases hx with
   |l6=>exact grow none 0 (fun w' _ vals _=>by simp[Builtin.firstCells]) ah
   |aJ _ _ _ _ _ _ _ eH hA' hcc hlc aem=>
    by_cases hr:len+ys.length<=eH
    ·have hmc:=tK i.size hr
     have hpos:0< (len+ys.length)*i.size:=Nat.mul_pos ah hsz;obtain⟨_,gX,_⟩:=h.obj _ _ _ ho;have hne:cs≠[]:=(by rintro rfl;have:=gX.1 rfl;omega);obtain⟨hb0,vals,t',g1,g2,g3,g4⟩:=gX.2 hne;obtain⟨w',vals',r1,r2,r3,r4,r5⟩:=aek (E:=E) (off:=len*i.size) (news:=news) g1 (by have:=L6.1;omega) hs.one;have hrun:=run_append_room' (ty:=ty) (sLen:=len) (sCap:=eH) (base:=some (at_ (K.blk s) 0)) (w':=w') ht hi hz hs ah hb' hr (fun a ha=>by simp only[iE] at ha;subst ha;rw[addr_add,nS];exact r1) (fun hn=>by cases hn);have hcl:(cs.take (len*i.size)++ys.flatMap V.cells).length=(len+ys.length)*i.size:=(by simp only[bE,oz,hfl];omega);have hstep:=Step.alW (loc:=loc) (cs:=cs.take (len*i.size)++ys.flatMap V.cells) h hB hst ho hne g1 r2 r3 (by intro h0;rw[h0] at hcl;simp at hcl;omega) ah (fun K' e' q hq=>by
      have amE:q<vals.size:=ah;have hrf:=L6.1;have hlt:(cs.take (len*i.size)).length=len*i.size:=(by simp only[oz];omega);rw[r5 q amE];by_cases h1:q<len*i.size
      ·rw[rY ah,xS _ h1,if_neg ah]
       exact(g4 q ah).ext e'
      ·rw[rZ ah,hlt,if_pos ah]
       exact(L6.2 _ ah).ext e')
     refine⟨_,_,_,hrun,?_,hstep⟩;have key:Rel (K.lK st (K.blk s) vals'.size loc) ((σ.eG jO).setObj loc st (.cells (cs.take (len*i.size)++ys.flatMap V.cells))).top w' (.aJ loc st 0 (len+ys.length) (len+ys.length) i.size ag)
      (.slice (some (at_ ((K.lK st (K.blk s) vals'.size loc).blk st) 0)) (len+ys.length) eH):=
      .aJ loc st 0 _ _ i.size ag eH (.inr rfl) hr (RS _) Ra
     have hblk:(K.lK st (K.blk s) vals'.size loc).blk st=K.blk s:=upd_same _ _ _;rw[hblk] at key;exact key
    ·exact grow (some (at_ (K.blk s) 0)) eH (fun w' hw vals amF=>by have:=R7 (E:=E) (w:=w) (sz:=i.size) (n:=len) (cap:=eH) (b:=K.blk s) (o:=0) (val:=fun p q=>vals (p*i.size+q)) (fun p q hp hq=>by rw[nS];exact amF _ (mul_lt hp hq)) w' hw;rw[this];congr 3;funext q;show vals (q/i.size*i.size+q% i.size)=vals q;rw[Ab,Nat.div_add_mod]) ah
  ·simp at hv
theorem Yc (h:bA E B0 σ K w)(hB:B0<=w.heap.size){aj zeros:Bool}{st:Nat}{loc:Option Loc}{t tx ty:TypeId}{x y v:V}{cx cy:Value}{σ':au}(hst:¬K.A st)(hx:Rel K σ.top w x cx)(hy:Rel K σ.top w y cy)(hk:zeros=true->∃k,E.P.underlying tx=some (.int k))(hk':zeros=false->(∃e',E.P.underlying tx=some (.slice e'))\/E.P.underlying tx=some .string)(hv:mI E.P aj zeros σ st loc t x y=some (v,σ')):Done E B0 (· =st) σ K w (Builtin.append_ #[t,tx] ty #[cx,cy]) v σ':=by
 simp only[mI,iR] at hv;obtain⟨e,he,sz,hsz,iF,hby,ag,hag,z,hz,hv⟩:=hv;split at hv
 ·rename_i hc
  obtain⟨c1,c2,c3,c4⟩:=hc;simp only[iR] at hv;obtain⟨ys,hys,hv⟩:=hv;split at hv
  ·rename_i hone
   have hu:=LU he;obtain⟨i,cz,hi,rfl,rfl,hiz,hzv⟩:=aei hsz hby hz;have hraw:fV z=true:=Hu hz;obtain⟨aBh,_,hz2⟩:=C9 w hz;have hrz:Rel K σ.top w z cz:=RU hzv;have hzs:cz.cells.size=i.size:=by rw[<-(C8 hrz hraw).1,c2]
   obtain⟨news,hs,ry⟩:=ams (e:=e) h hy hrz hraw c2 c4 hk hk' c1 hys hone rfl;cases x with
   |ay c l=>
    simp only at hv;split at hv
    ·rename_i hr
     obtain⟨hr,hhead⟩:=hr;obtain⟨h47,hb⟩:=Yb hr;have aen:∀loc,(c= .nil\/(c= .full/\ys≠[]))->Done E B0 (· =st) σ K w (Builtin.append_ #[t,tx] ty #[cx,cy]) (.aJ loc st 0 (l.length+ys.length) (l.length+ys.length) i.size ag) (σ.setObj loc st (.cells ((l++ys).flatMap V.cells))):=by
      intro loc hcc;have amG:=R8 ry hs.len;rcases LZ hx hhead (fun n s hh=>by rcases hcc with rfl| ⟨rfl,_⟩<;>cases hh) with ⟨a0,rfl,ha0,rfl,_⟩| ⟨b,o,cap,val,rfl,h2,h3,h4,h5,h6⟩
      ·by_cases hy0:ys=[]
       ·subst hy0
        have ha:a0=none:=by
         rcases hcc with h1| ⟨_,h1⟩
         ·exact ha0 h1
         ·exact absurd rfl h1
        subst ha;exact⟨_,_,_,Db (ty:=ty) (base:=none) (sLen:=0) (sCap:=0) hu hi hiz hs rfl (RS _),.l6 loc st i.size ag (Or.inr rfl),Step.amy h loc hst⟩
       ·have hl:0<ys.length:=CP.2 hy0
        have:=Ya (ty:=ty) (ag:=ag) (loc:=loc) (base:=a0) (olds:=[]) (sLen:=0) (sCap:=0) (fl:=ys.flatMap V.cells) h hB hu hi hiz hzs c3 hs (fun w' _=>R4 w' i.size a0) aC (by simpa using h47) Cz ah (by simpa using amG) hst;simpa using this
      ·rcases hcc with rfl| ⟨rfl,hy0⟩
       ·exact h6.elim
       ·have hcap:cap=l.length:=h6
        subst hcap;have hl:0<ys.length:=CP.2 hy0;have rc:=aed (X9 h3 h5) ry aC;exact Ya (ty:=ty) (ag:=ag) (loc:=loc) (base:=some (at_ b o)) h hB hu hi hiz hzs c3 hs (fun w' hw=>R7 (fun p j hp hj=>(h4 p j hp hj).1) w' hw) aC h47 hb ah (R8 rc (by rw[bE,hs.len,bE,tJ];simp)) hst
     cases aj with
     |true=>
      cases c with
      |nil=>simp only[aZ,aP] at hv;obtain⟨loc,_,rfl,rfl⟩:=hv;exact aen loc (.inl rfl)
      |full=>
       simp only at hv;split at hv
       ·rename_i hy0
        simp only[iE,aP] at hv;obtain⟨rfl,rfl⟩:=hv;have hn:ys.length=0:=(by simpa using hy0);rcases LZ hx hhead (fun n s hh=>by cases hh) with ⟨a0,rfl,_,rfl,_⟩| ⟨b,o,cap,val,rfl,h2,h3,h4,h5,h6⟩
        ·exact⟨_,_,_,Db (ty:=ty) (base:=a0) (sLen:=0) (sCap:=0) hu hi hiz hs hn (RS _),hx,Step.refl h⟩
        ·exact⟨_,_,_,Db (ty:=ty) (base:=some (at_ b o)) hu hi hiz hs hn ah,hx,Step.refl h⟩
       ·rename_i hy0
        simp only[aZ,aP] at hv;obtain⟨loc,_,rfl,rfl⟩:=hv;exact aen loc (.inr ⟨rfl,fun h0=>hy0 (by rw[h0];rfl)⟩)
      |own n s=>simp at hv|sh=>simp at hv
     |false=>refine amx (ty:=ty) h hB hu hi hiz hzs c3 hst hx hs ry h47 hb hhead ?_;rw[<-hv];cases c<;>rfl
    ·simp at hv
   |aJ jO s off len cap bS ER=>
    simp only at hv;split at hv
    ·rename_i hr
     obtain⟨hr,_,rfl,rfl⟩:=hr;obtain⟨h47,hb⟩:=Yb hr;simp only[iR] at hv;obtain⟨loc,_,cs,hcs,hv⟩:=hv;exact amD (ty:=ty) h hB hu hi hiz hzs c3 hst hx hs ry h47 hb hcs hv
    ·simp at hv
   |_=>simp at hv
  ·simp at hv
 ·simp at hv
end
section
variable {E:Env}{B0:Nat}{σ:au}{K:aV}{w:World}{new:Nat->Prop}{T:Nat->Nat}
theorem aeo {v:V}{n:Int}{c:Value}(hr:Rel K T w v c)(h:oF v=some n):∃k,c= .int k n:=by
 cases v with
 |int k m=>simp only[oF,iE] at h;subst h;cases hr;exact⟨k,rfl⟩|_=>simp[oF] at h
theorem amH (h:bA E B0 σ K w)(hB:B0<=w.heap.size){aj:Bool}{st:Nat}{loc:Option Loc}{t:TypeId}{l c v:V}{cl cc:Value}{σ':au}(hst:¬K.A st)(hl:Rel K σ.top w l cl)(hc:Rel K σ.top w c cc)(hv:BA E.P aj σ st loc t l c=some (v,σ')):Done E B0 (· =st) σ K w (Instr.makeSlice t cl cc) v σ':=by
 simp only[BA,iR] at hv;obtain⟨e,he,sz,hsz,iF,hby,z,hz,n,hn,m,hm,hv⟩:=hv;split at hv
 ·rename_i hcond
  obtain⟨c1,c2,c3,c4,c5⟩:=hcond;obtain⟨hr1,hr2⟩:=Yb c3;obtain⟨k1,rfl⟩:=aeo hl hn;obtain⟨k2,rfl⟩:=aeo hc hm;obtain⟨i,cz,hi,rfl,rfl,hiz,hzv⟩:=aei hsz hby hz;have hraw:fV z=true:=Hu hz;have hrz:Rel K σ.top w z cz:=RU hzv;have hrl:=RZ hrz hraw c5 m.toNat;have hu:=LU he;have hb:(i.bytes:Int)*m<=281474976710656:=by
   have h1:((m.toNat*i.bytes:Nat):Int)<=((2^47:Nat):Int):=Int.ofNat_le.2 hr2;rw[Int.natCast_mul,Int.toNat_of_nonneg ah,Int.mul_comm] at h1;have:((2^47:Nat):Int)=140737488355328:=eO
   omega
  have hrun:=run_make (P:=E.P) w t e i cz hu hi hiz k1 k2 n m c1 c2 hb ah;have aep:madeCells cz.cells (m.toNat*i.size)=(Array.range (m.toNat*i.size)).map fun j=>cz.cells[j% cz.cells.size]! :=rfl;have hms:(madeCells cz.cells (m.toNat*i.size)).size=m.toNat*i.size:=by rw[aep];simp
  split at hv
  ·rename_i h0
   obtain⟨rfl,_⟩:=h0;simp only[iE,aP] at hv;obtain⟨rfl,rfl⟩:=hv;have hstep:=Step.adM h hB st 0 (.inl hst) (madeCells cz.cells (m.toNat*i.size)) e 0 (kN _);refine⟨_,_,_,hrun,?_,hstep⟩;refine .ay _ [] w.heap.size 0 i.size m.toNat (fun _ _=>undef) (kN _) (fun p hp=>absurd hp (gK p)) (fun p q hp=>absurd hp (gK p)) (fun p q hp=>absurd hp (gK p)) ⟨rfl,Or.inr rfl,kN _,fun _=>⟨upd_same _ _ _,?_,?_⟩⟩
   ·show upd K.lo st _ st=_
    rw[upd_same];simp
   ·show upd K.hi st _ st=_
    rw[upd_same,hms];simp
  ·simp only[iR,aZ,aP] at hv
   obtain⟨loc,_,ag,_,rfl,rfl⟩:=hv;have hfl:(List.replicate m.toNat z.cells).flatten.length=m.toNat*i.size:=by simp[c5]
   have hstep:=Step.LK h hB hst loc (.cells (List.replicate m.toNat z.cells).flatten) (.cells (madeCells cz.cells (m.toNat*i.size)) e) (m.toNat*i.size) (fun K' e' _ hb' hs'=>by refine⟨fun h0=>by rw[h0] at hfl;rw[hs',<-hfl];rfl,fun _=>⟨Lh,_,e,Rm,by rw[hs',hms],by rw[hfl,hms];exact RS _,fun q hq=>?_⟩⟩;have:=hrl.2 q hq;rw[<-aep] at this;exact this.ext e');refine⟨_,_,_,hrun,?_,hstep⟩;have key:Rel (K.lK st w.heap.size (m.toNat*i.size) loc) (σ.setObj loc st (.cells (List.replicate m.toNat z.cells).flatten)).top (w.alloc (.cells (madeCells cz.cells (m.toNat*i.size)) e)) (.aJ loc st 0 n.toNat m.toNat i.size ag)
    (.slice (some (at_ ((K.lK st w.heap.size (m.toNat*i.size) loc).blk st) 0)) n.toNat m.toNat):=
    .aJ loc st 0 _ _ i.size ag _ (Or.inr rfl) (RS _) ah Ra
   have hblk:(K.lK st w.heap.size (m.toNat*i.size) loc).blk st=w.heap.size:=upd_same _ _ _;rw[hblk] at key;exact key
 ·simp at hv
theorem amI (h:bA E B0 σ K w)(hB:B0<=w.heap.size){st:Nat}{loc:Option Loc}{t:TypeId}{len:Nat}{parts:List (Nat×V)}{parts':Array (Nat×Value)}{v:V}{σ':au}(hst:¬K.A st)(hp:HZ K σ.top w parts parts'.toList)(hv:CX E σ st loc t len parts=some (v,σ')):Done E B0 (· =st) σ K w (Instr.buildSlice t len parts') v σ':=by
 simp only[CX,iR] at hv;obtain⟨e,he,sz,hsz,ag,hag,z,hz,hv⟩:=hv;split at hv
 ·rename_i hc
  obtain⟨c1,c2,c3⟩:=hc;simp only[iR,aZ,aP] at hv;obtain⟨cs,hcs,loc,_,rfl,rfl⟩:=hv;obtain⟨cz,hz1,hz2⟩:=C9 w hz;have hraw:fV z=true:=Hu hz;have hrz:=RZ (hz2 K σ.top) hraw c2 len;obtain⟨vs',g1,g2,g3⟩:=LY (K:=K) (T:=σ.top) (w:=w) (place':=fun i=>some (i*sz,sz)) (fun i x hx=>by
   split at hx
   ·exact hx
   ·simp at hx) parts parts'.toList _ _ _ hp hrz hcs
  have hlen:cs.length=len*sz:=by rw[g2.1,g3];simp
  have hu:=LU he;have hrun:(Instr.buildSlice t len parts').run E.P w= .ok (.slice (some ⟨w.heap.size,0,none⟩) len len) (w.alloc (.cells vs' e)):=by
   have hn:¬2^24<len*sz:=ah
   by_cases h0:len*sz=0
   ·have hl0:len=0:=by
     rcases Nat.mul_eq_zero.1 h0 with h|h
     ·exact h
     ·omega
    subst hl0;simp only[Instr.buildSlice,Sem.run_bind,run_underlying hu,Result.andThen_ok,oH w hsz,Nat.zero_mul];have g1':Instr.fill (fun i=>some (i*sz,sz)) #[] parts'.toList=some vs':=(by have e0:((Array.range (0*sz)).map fun i=>cz.cells[i% cz.cells.size]!)= #[]:=Ru;rw[<-e0];exact g1);have e1:∀f:Nat->Value,(Array.range 0).map f= #[]:=fun f=>Ru
    simp only[if_true,e1,g1'];simp[newRow]
   ·simp only[Instr.buildSlice,Sem.run_bind,run_underlying hu,Result.andThen_ok,oH w hsz,hn,gt_iff_lt,if_false,h0,hz1,Sem.run_pure]
    rw[g1];simp[newRow]
  have hms:vs'.size=len*sz:=by rw[<-g2.1,hlen]
  have hstep:=Step.LK h hB hst loc (.cells cs) (.cells vs' e) (len*sz) (fun K' e' _ hb' hs'=>by refine⟨fun h0=>by rw[h0] at hlen;rw[hs',<-hlen];rfl,fun _=>⟨Lh,_,e,Rm,by rw[hs',hms],by rw[hlen,hms];exact RS _,fun q hq=>?_⟩⟩;exact(g2.2 q hq).ext e');refine⟨_,_,_,hrun,?_,hstep⟩;have key:Rel (K.lK st w.heap.size (len*sz) loc) (σ.setObj loc st (.cells cs)).top (w.alloc (.cells vs' e)) (.aJ loc st 0 len len sz ag)
   (.slice (some (at_ ((K.lK st w.heap.size (len*sz) loc).blk st) 0)) len len):=
   .aJ loc st 0 _ _ sz ag _ (Or.inr rfl) (RS _) (RS _) Ra
  have hblk:(K.lK st w.heap.size (len*sz) loc).blk st=w.heap.size:=upd_same _ _ _;rw[hblk] at key;exact key
 ·simp at hv
theorem amJ (h:bA E B0 σ K w)(hB:B0<=w.heap.size){t tx ty:TypeId}{x y v:V}{cx cy:Value}{σ':au}(hx:Rel K σ.top w x cx)(hy:Rel K σ.top w y cy)(hv:copyV E.P σ t x y=some (v,σ')):Done E B0 new σ K w (Builtin.copy_ #[t,tx] ty #[cx,cy]) v σ':=by
 unfold copyV at hv;cases hv
theorem amK (h:bA E B0 σ K w)(hB:B0<=w.heap.size){t ty:TypeId}{x v:V}{cx:Value}{σ':au}(hx:Rel K σ.top w x cx)(hv:Hg E.P σ t x=some (v,σ')):Done E B0 new σ K w (Builtin.clear_ #[t] ty #[cx]) v σ':=by
 unfold Hg at hv;cases hv
end
section
variable {E:Env}{B0:Nat}{σ:au}{K:aV}{w:World}{new:Nat->Prop}{T:Nat->Nat}
theorem amL (h:bA E B0 σ K w){t ty:TypeId}{ts:Array TypeId}{x:V}{cx:Value}{n:Nat}(ht:ts[0]? =some t)(hx:Rel K σ.top w x cx)(hv:vV E σ t x=some n):(Builtin.len_ ts ty #[cx]).run E.P w= .ok (.int .i64 n) w:=by
 unfold vV at hv;split at hv
 ·rename_i m e hu
  simp only[iE] at hv;subst hv;simp[Builtin.len_,ht,run_underlying hu,goInt]
 ·rename_i k e loc s hu
  simp only[aZ] at hv;obtain⟨⟨ks,vs⟩,hm,rfl⟩:=hv;unfold au.jw at hm;split at hm
  ·rename_i s' ks' vs' ho
   split at hm
   ·rename_i hs
    subst hs;simp only[iE,aP] at hm;obtain⟨rfl,rfl⟩:=hm;obtain⟨_,⟨_,es,bR,g1,_,g2,_⟩,_⟩:=h.obj _ _ _ ho;cases hx;have hg:(getObj (K.blk s')).run E.P w= .ok (.map es bR) w:=(by simp[getObj,Sem.run,g1]);simp[Builtin.len_,ht,run_underlying hu,goInt,hg,g2]
   ·simp at hm
  ·simp at hm
 ·rename_i k e ks vs hu
  simp only[iE] at hv;subst hv;cases hx with|eU _ _ b es bR hM hb hk hv' rk rv=>
  have hg:(getObj b).run E.P w= .ok (.map es bR) w:=by simp[getObj,Sem.run,hb]
  simp[Builtin.len_,ht,run_underlying hu,goInt,hg,hk]
 ·rename_i k e hu
  simp only[iE] at hv;subst hv;cases hx;simp[Builtin.len_,ht,run_underlying hu,goInt]
 ·rename_i a x hu
  simp only[aZ] at hv;obtain⟨⟨m,e⟩,hm,rfl⟩:=hv;simp[Builtin.len_,ht,run_underlying hu,run_underlying (adS hm),goInt]
 ·rename_i e c l hu
  simp only[iE] at hv;subst hv;cases hx<;>simp[Builtin.len_,ht,run_underlying hu,goInt]
 ·rename_i e loc s off len cap bS ag hu
  simp only[iE] at hv;subst hv;cases hx<;>simp[Builtin.len_,ht,run_underlying hu,goInt]
 ·rename_i s hu
  simp only[iE] at hv;subst hv;cases hx with|str _ b hb=>
  subst hb;simp[Builtin.len_,ht,run_underlying hu,goInt]
 ·simp at hv
theorem amM {t e ty:TypeId}{ts:Array TypeId}{x v:V}{cx:Value}{σ':au}(ht:ts[0]? =some t)(hu:E.P.underlying t=some (.slice e))(hv:(match x with|.ay .nil l|.ay .full l=>some (V.int .i64 l.length,σ)|_=>none)=some (v,σ'))(hx:Rel K σ.top w x cx):
 σ'=σ/\∃c,(Builtin.cap_ ts ty #[cx]).run E.P w= .ok c w/\Rel K σ.top w v c:=by
 cases x with
 |ay c l=>
  cases c with
  |nil=>
   simp only[iE,aP] at hv;obtain⟨rfl,rfl⟩:=hv;cases hx with
   |fu _ a=>exact⟨rfl,_,by cases a<;>simp[Builtin.cap_,ht,run_underlying hu,goInt],.int .i64 0⟩|ay _ _ _ _ _ _ _ _ _ _ _ hc=>exact hc.elim
  |full=>
   simp only[iE,aP] at hv;obtain⟨rfl,rfl⟩:=hv;cases hx with
   |fu _ a=>exact⟨rfl,_,by cases a<;>simp[Builtin.cap_,ht,run_underlying hu,goInt],.int .i64 0⟩|ay _ _ _ _ _ cap _ _ _ _ _ hc=>have hc:cap=l.length:=hc;subst hc;exact⟨rfl,_,by simp[Builtin.cap_,ht,run_underlying hu,goInt],.int .i64 _⟩
  |_=>simp at hv
 |_=>simp at hv
theorem aer:∀(l:List V)(cl:List Value)(x v:V)(cx:Value),l.length=cl.length->(∀i,i<l.length->Rel K T w (l.getD i aK) (cl.getD i undef))->Rel K T w x cx->yR false x l=some v->
 ∃c,(cl.foldlM Builtin.min2 cx).run E.P w= .ok c w/\Rel K T w v c
 | [],[],x,v,cx,_,_,hx,hv=>by simp only[yR,iE] at hv;subst hv;exact⟨cx,rfl,hx⟩|y::l,cy::cl,x,v,cx,hl,hr,hx,hv=>by
  cases x<;>cases y<;>simp only[yR,reduceCtorEq] at hv;rename_i k a k' b;split at hv
  ·rename_i hk
   subst hk;have h0:=hr 0 aC;simp at h0;cases hx;cases h0;obtain⟨c,h1,h2⟩:=aer l cl _ v (.int k (if b<a then b else a)) yN (fun i hi=>by have:=hr (i+1) jR;simpa using this) (.int k _) hv;exact⟨c,by simpa [Builtin.min2] using h1,h2⟩
  ·simp at hv
 | [],_::_,_,_,_,h,_,_,_=>xD|_::_,[],_,_,_,h,_,_,_=>xD
theorem aes:∀(l:List V)(cl:List Value)(x v:V)(cx:Value),l.length=cl.length->(∀i,i<l.length->Rel K T w (l.getD i aK) (cl.getD i undef))->Rel K T w x cx->yR true x l=some v->
 ∃c,(cl.foldlM Builtin.max2 cx).run E.P w= .ok c w/\Rel K T w v c
 | [],[],x,v,cx,_,_,hx,hv=>by simp only[yR,iE] at hv;subst hv;exact⟨cx,rfl,hx⟩|y::l,cy::cl,x,v,cx,hl,hr,hx,hv=>by
  cases x<;>cases y<;>simp only[yR,reduceCtorEq] at hv;rename_i k a k' b;split at hv
  ·rename_i hk
   subst hk;have h0:=hr 0 aC;simp at h0;cases hx;cases h0;obtain⟨c,h1,h2⟩:=aes l cl _ v (.int k (if b>a then b else a)) yN (fun i hi=>by have:=hr (i+1) jR;simpa using this) (.int k _) hv;exact⟨c,by simpa [Builtin.max2] using h1,h2⟩
  ·simp at hv
 | [],_::_,_,_,_,h,_,_,_=>xD|_::_,[],_,_,_,h,_,_,_=>xD
end
end aY
end
