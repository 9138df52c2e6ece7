import Derived.Deep.Upon
import Derived.Test.YthadiihdjhakdaaGreatF2201
set_option linter.all false
section
namespace aR
open Go Go.RowKit
section
variable {E:Env}{B0:Nat}{σ:ak}{K:aU}{w:World}{new:Nat->Prop}{T:Nat->Nat}
def Src (P:Program)(w:World)(sz n:Nat)(cx:Value)(cells:List Value):Prop:=
 cells.length=n*sz/\∀w',w'.heap=w.heap->(Builtin.firstCells sz n cx).run P w'= .ok cells.toArray w'
def mU (K:aU)(T:Nat->Nat)(w:World)(sz:Nat)(l:List V)(cells:List Value):Prop:=
 ∀i,i<l.length->(l.getD i aL).cells.length=sz/\∀j,j<sz->Rel K T w ((l.getD i aL).cells.getD j aL) (cells.getD (i*sz+j) undef)
theorem mU.ext {K' T' w'}{sz:Nat}{l:List V}{cells:List Value}(h:mU K T w sz l cells)(e:Ext K T w K' T' w'):mU K' T' w' sz l cells:=
 fun i hi=>⟨(h i hi).1,fun j hj=>((h i hi).2 j hj).ext e⟩
theorem mul_lt {i j n sz:Nat}(hi:i<n)(hj:j<sz):i*sz+j<n*sz:=by have:=rO sz (Nat.succ_le_of_lt hi);rw[rP] at this;omega
theorem aeA {f:Nat->Nat->Value}{n sz i j:Nat}(hi:i<n)(hj:j<sz):((List.range (n*sz)).map fun q=>f (q/sz) (q% sz)).getD (i*sz+j) undef=f i j:=by
 have hlt:=mul_lt hi hj;have h1:(i*sz+j)/sz=i:=by rw[xK,Nat.mul_add_div ah,Nat.div_eq_of_lt hj,Nat.add_zero]
 have h2:(i*sz+j)% sz=j:=by rw[xK,Nat.mul_add_mod,Nat.mod_eq_of_lt hj]
 simp[List.getD,hlt,h1,h2]
theorem UH {P:Program}(w:World)(sz:Nat)(a:Option Addr):(Builtin.firstCells sz 0 (.slice a 0 0)).run P w= .ok #[] w:=by
 cases a with
 |none=>simp[Builtin.firstCells]|some a=>simpa using run_firstCells_some (P:=P) w sz 0 a 0 0 [] aD (fun j v hj=>GI)
theorem apl {c:Cap}{l:List V}{cx:Value}{sz:Nat}(h:Rel K T w (.ay c l) cx)(hs:qR sz l=true):∃cells,Src E.P w sz l.length cx cells/\mU K T w sz l cells:=by
 cases h with
 |eP _ a ha hc=>exact⟨[],⟨aD,fun w' _=>UH w' sz a⟩,fun i hi=>absurd hi (gL i)⟩
 |ay _ _ b o n cap val hle hn hcell hrel hc=>
  by_cases h0:l=[]
  ·subst h0
   refine⟨[],⟨aD,fun w' hw=>?_⟩,fun i hi=>absurd hi (gL i)⟩;have:=run_firstCells_some (P:=E.P) w' sz 0 (at_ b o) 0 cap [] aD (fun j v hj=>GI);simpa using this
  ·have hpos:0<l.length:=wh.2 h0
   have apm:n=sz:=YD hs hn hpos;subst apm;refine⟨(List.range (l.length*n)).map fun q=>val (q/n) (q% n),⟨aD,fun w' hw=>?_⟩,fun i hi=>⟨hn i hi,fun j hj=>?_⟩⟩
   ·refine run_firstCells_some (P:=E.P) w' n l.length (at_ b o) l.length cap _ aD (fun j v hj=>?_)
    have hjl:j<l.length*n:=(by have:=(qm.1 hj).1;simpa using this);have hn0:0<n:=by
     rcases Nat.eq_zero_or_pos n with h|h
     ·subst h;simp at hjl
     ·exact h
    simp[hjl] at hj;subst hj;rw[addr_add];have:=(hcell (j/n) (j% n) (Nat.div_lt_of_lt_mul (by rw[xK];exact hjl)) (Nat.mod_lt _ hn0)).1;rw[cell_of_heap (w:=w) (by rw[hw])]
    rwa[sZ,xK,Nat.div_add_mod] at this
   ·rw[aeA hi hj];exact hrel i j hi hj
theorem apn {s:List UInt8}{cx:Value}{e:TypeId}(h:Rel K T w (.str s) cx):∃cells,Src E.P w 1 (s.map zy).length cx cells/\mU K T w 1 (s.map zy) cells:=by
 let _:=e
 cases h with|str _ b hb=>
 have hl:s.length=b.size:=by rw[<-hb];simp
 refine⟨(b.data.map fun x=>Value.int .u8 x.toNat).toList,⟨by simp[hl],fun w' _=>?_⟩,fun i hi=>?_⟩
 ·simp only[Builtin.firstCells,Sem.run_pure]
  congr 1;have:(b.extract 0 (s.map zy).length)=b:=by rw[iG,hl];simp
  rw[this]
 ·have hi':i<s.length:=jm
  have hg:(s.map zy).getD i aL=zy s[i]:=MX
  rw[hg];refine⟨rfl,fun j hj=>?_⟩;obtain rfl:j=0:=ah
  have hib:i<b.size:=ah
  have hv:((b.data.map fun x=>Value.int .u8 x.toNat).toList).getD (i*1+0) undef= .int .u8 s[i].toNat:=by
   have e1:s[i]=b.data[i]'(by simpa using hib):=by subst hb;simp
   simp[List.getD,hib,e1]
  rw[hv];exact .int _ _
theorem apo (h:bE E B0 σ K w){loc:Loc}{s off len cap sz:Nat}{ag EF:Bool}{cs:List V}{cx:Value}(hx:Rel K σ.top w (.aM loc s off len cap sz EF) cx)(hcs:σ.bQ loc s=some cs)(hle:off+len*sz<=cs.length)(hag:(ag||sz==1)=true)(hone:dU cs=true\/ag=true):
 ∃cells,Src E.P w sz ((chunks ag sz len (cs.drop off)).map er).length cx cells/\mU K σ.top w sz ((chunks ag sz len (cs.drop off)).map er) cells:=by
 obtain⟨ho,hA,hks⟩:=h.xY hcs;obtain⟨_,gU,_⟩:=h.obj _ _ _ ho;have hlen:((chunks ag sz len (cs.drop off)).map er).length=len:=by rw[iG,yc]
 rw[hlen];cases hx with
 |kP=>exact⟨[],⟨aD,fun w' _=>by simp[Builtin.firstCells]⟩,fun i hi=>by rw[hlen] at hi;omega⟩
 |aM _ _ _ _ _ _ _ dP hA' hcc hlc hsz=>
  by_cases h0:len*sz=0
  ·refine⟨[],⟨by simp[h0],fun w' _=>?_⟩,fun i hi=>?_⟩
   ·have:=run_firstCells_some (P:=E.P) w' sz len (at_ (K.blk s) off) len dP [] (by simp[h0]) (fun j v hj=>GI)
    simpa using this
   ·rw[hlen] at hi
    have hsz0:sz=0:=by
     rcases Nat.mul_eq_zero.1 h0 with h|h
     ·omega
     ·exact h
    subst hsz0;have hag':ag=true:=(by simpa using hag);subst hag';refine⟨?_,fun j hj=>absurd hj (gL j)⟩;have hi':i< (chunks true 0 len (cs.drop off)).length:=(by rw[yc];exact hi);have:((chunks true 0 len (cs.drop off)).map er).getD i aL=er ((chunks true 0 len (cs.drop off)).getD i aL):=MX;rw[this,YL,YE _ _ _ _ _ hi];simp[V.cells]
  ·obtain⟨_,vals,t,g1,g2,g3,g4⟩:=gU.2 (by rintro rfl;simp at hle;omega)
   refine⟨(List.range (len*sz)).map fun q=>vals.getD (off+q) undef,⟨aD,fun w' hw=>?_⟩,fun i hi=>?_⟩
   ·refine run_firstCells_some (P:=E.P) w' sz len (at_ (K.blk s) off) len dP _ aD (fun j v hj=>?_)
    have hjl:j<len*sz:=(by have:=(qm.1 hj).1;simpa using this);simp only[List.getElem?_map,List.getElem?_range hjl,Option.map_some,iE] at hj;subst hj;rw[addr_add,cell_of_heap (w:=w) (by rw[hw])];simp[World.cell?,g1,show off+j<vals.size by omega]
   ·rw[hlen] at hi
    have hi':i< (chunks ag sz len (cs.drop off)).length:=(by rw[yc];exact hi);have hge:((chunks ag sz len (cs.drop off)).map er).getD i aL=er ((chunks ag sz len (cs.drop off)).getD i aL):=MX;rw[hge,YL];have hcc:=aem (cs:=cs.drop off) ag (n:=sz) (k:=len) (fun hf=>by subst hf;simpa using hag) eY (fun hf=>by
     rcases hone with h1|h1
     ·simp only[dU,kG] at h1⊢
      exact fun x hx=>h1 x (List.mem_of_mem_drop hx)
     ·subst h1;cases hf) hi
    have hlt:i*sz+sz<=len*sz:=by
     have:=rO sz (Nat.succ_le_of_lt hi)
     rwa[rP] at this
    refine⟨by rw[hcc];simp;omega,fun j hj=>?_⟩;refine aez (by rw[hcc];simp;omega) ?_;rw[hcc,wJ _ hj,x9,x9];have hq:i*sz+j<len*sz:=ah;have:((List.range (len*sz)).map fun q=>vals.getD (off+q) undef).getD (i*sz+j) undef=vals.getD (off+(i*sz+j)) undef:=(by simp[List.getD,hq]);rw[this];exact g4 _ ah
structure zI (P:Program)(w:World)(sz n:Nat)(tx:TypeId)(z cx:Value)(news:List Value):Prop where
 len:news.length=n*sz
 one:∀u∈news,u.oneCell'=true
 kind:(((∃e',P.underlying tx=some (.slice e'))\/P.underlying tx=some .string)/\(∀w',(Builtin.lenOf cx).run P w'= .ok n w')/\∀w',w'.heap=w.heap->(Builtin.firstCells sz n cx).run P w'= .ok news.toArray w')\/
  ((∃k k',P.underlying tx=some (.int k)/\cx= .int k' n)/\news=(Builtin.zeroCells z.cells n).toList/\z.cells.size=sz)
theorem aeB (z:Array Value){n:Nat}(h:n*z.size=0):Builtin.zeroCells z n= #[]:=by simp[Builtin.zeroCells,h,Array.range_zero']
theorem aeC {n:Nat}(h:n<=2^47):IntKind.i64.wrap (n:Int)=n:=zk
theorem run_append_room' {P:Program}{w w':World}{t tx ty e:TypeId}{i:TypeInfo}{z:Value}{n sLen sCap:Nat}{cx:Value}{news:List Value}{base:Option Addr}(ht:P.underlying t=some (.slice e))(hi:P.info? e=some i)(hz:i.zero=some z)(hs:zI P w i.size n tx z cx news)(hn:n<=2^47)(hb:n*i.bytes<=2^47)(hroom:sLen+n<=sCap)(h1:∀a,base=some a->(storeCells (a.add (sLen*i.size)) news).run P w= .ok () w')(h2:base=none->w'=w):(Builtin.append_ #[t,tx] ty #[.slice base sLen sCap,cx]).run P w= .ok (.slice base (sLen+n) sCap) w':=by
 rcases hs.kind with ⟨hk,hl,hc⟩| ⟨⟨k,k',hk,rfl⟩,hc,hzs⟩
 ·have hc':=hc w rfl
  cases base with
  |none=>rw[h2 rfl];rcases hk with ⟨e',hk⟩|hk<;>simp[Builtin.append_,run_underlying ht,run_underlying hk,Go.sizeOf,typeInfo,hi,hl,hroom,hc']
  |some a=>have hst:=h1 a rfl;rcases hk with ⟨e',hk⟩|hk<;>simp[Builtin.append_,run_underlying ht,run_underlying hk,Go.sizeOf,typeInfo,hi,hl,hroom,hc',hst]
 ·have hw:=aeC hn
  have hb':¬(281474976710656< (n:Int)*(i.bytes:Int)):=by have:=Int.ofNat_le.2 hb;simp at this;omega
  have hneg:¬((n:Int)<0):=ah
  by_cases h0:n*i.size=0
  ·have hnews:news=[]:=by rw[hc,aeB _ (by rw[hzs];exact h0)]
   subst hnews;cases base with
   |none=>rw[h2 rfl];simp[Builtin.append_,run_underlying ht,run_underlying hk,Go.sizeOf,typeInfo,hi,hroom,asInt,asIntOf,hw,hb',hneg,h0]|some a=>have hst:=h1 a rfl;simp[Builtin.append_,run_underlying ht,run_underlying hk,Go.sizeOf,typeInfo,hi,hroom,asInt,asIntOf,hw,hb',hneg,h0,hst]
  ·cases base with
   |none=>rw[h2 rfl];simp[Builtin.append_,run_underlying ht,run_underlying hk,Go.sizeOf,typeInfo,zeroValue,hi,hz,hroom,asInt,asIntOf,hw,hb',hneg]|some a=>have hst:=h1 a rfl;rw[hc] at hst;simp[Builtin.append_,run_underlying ht,run_underlying hk,Go.sizeOf,typeInfo,zeroValue,hi,hz,hroom,asInt,asIntOf,hw,hb',hneg,h0,hst]
theorem run_append_grow' {P:Program}{w:World}{t tx ty e:TypeId}{i:TypeInfo}{z:Value}{n sLen sCap:Nat}{cx:Value}{olds news:List Value}{base:Option Addr}(ht:P.underlying t=some (.slice e))(hi:P.info? e=some i)(hz:i.zero=some z)(hs:zI P w i.size n tx z cx news)(hold:∀w',w'.heap=w.heap->(Builtin.firstCells i.size sLen (.slice base sLen sCap)).run P w'= .ok olds.toArray w')(hn:sLen+n<=2^47)(hb:(sLen+n)*i.bytes<=2^47)(hroom:sCap<sLen+n):(Builtin.append_ #[t,tx] ty #[.slice base sLen sCap,cx]).run P w= .ok (.slice (some ⟨w.heap.size,0,none⟩) (sLen+n) (grownCap w (sLen+n) sCap e)) (w.drew.alloc (.cells ((olds++news).toArray++Builtin.zeroCells z.cells (grownCap w (sLen+n) sCap e-(sLen+n))) e)):=by
 have hnr:¬(sLen+n<=sCap):=ah
 have h63:¬(9223372036854775807< ((sLen:Int)+(n:Int))):=ah
 have h48:¬(281474976710656<Builtin.nextslicecap (sLen+n) sCap*i.bytes):=by have:=growslice_fits (bytes:=i.bytes) hroom ah;omega
 have hold':=hold w.drew rfl;have aEp:(olds++news).toArray=olds.toArray++news.toArray:=aD
 rcases hs.kind with ⟨hk,hl,hc⟩| ⟨⟨k,k',hk,rfl⟩,hc,hzs⟩
 ·have hc':=hc w.drew rfl
  rcases hk with ⟨e',hk⟩|hk<;>
   (simp[Builtin.append_,run_underlying ht,run_underlying hk,Go.sizeOf,typeInfo,zeroValue,hi,hz,hl,hnr,h63,h48,Question.forced,hc',hold',newRow,grownCap]
    congr 2;apply Array.ext';simp[jR])
 ·have hw:=aeC (n:=n) ah
  have hnb:n*i.bytes<=2^47:=dJ (rO _ ah) hb;have hb':¬(281474976710656< (n:Int)*(i.bytes:Int)):=by have:=Int.ofNat_le.2 hnb;simp at this;omega
  have hneg:¬((n:Int)<0):=ah
  by_cases h0:n*i.size=0
  ·have hnews:news=[]:=by rw[hc,aeB _ (by rw[hzs];exact h0)]
   subst hnews;simp[Builtin.append_,run_underlying ht,run_underlying hk,Go.sizeOf,typeInfo,zeroValue,hi,hz,hnr,h63,h48,Question.forced,asInt,asIntOf,hw,hb',hneg,h0,hold',newRow,grownCap]
  ·subst hc
   simp[Builtin.append_,run_underlying ht,run_underlying hk,Go.sizeOf,typeInfo,zeroValue,hi,hz,hnr,h63,h48,Question.forced,asInt,asIntOf,hw,hb',hneg,h0,hold',newRow,grownCap];congr 2;apply Array.ext';simp[jR]
end
section
variable {E:Env}{B0:Nat}{σ:ak}{K:aU}{w:World}{new:Nat->Prop}{T:Nat->Nat}
theorem Step.imp {new new' σ' K' w'}(h:Step E B0 new σ K w σ' K' w')(hn:∀s,new s->K.A s\/new' s):Step E B0 new' σ K w σ' K' w':=
 ⟨h.ok,h.ext,h.below,h.D,fun s hs=>(h.A s hs).elim .inl (hn s),h.qp,h.qw⟩
theorem aeD {sz:Nat}{l ys:List V}{olds news:List Value}(h:mU K T w sz l olds)(g:mU K T w sz ys news)(hl:olds.length=l.length*sz):mU K T w sz (l++ys) (olds++news):=by
 intro i hi;by_cases h1:i<l.length
 ·rw[qV h1]
  refine⟨(h i h1).1,fun j hj=>?_⟩;have:=mul_lt h1 hj;rw[qV ah];exact(h i h1).2 j hj
 ·have h1':l.length<=i:=Nat.not_lt.1 h1
  have h2:i-l.length<ys.length:=MZ
  rw[qW h1'];refine⟨(g _ h2).1,fun j hj=>?_⟩;have hm:i*sz=(i-l.length)*sz+l.length*sz:=by rw[<-rM];congr 1;omega
  rw[qW ah,show i*sz+j-olds.length=(i-l.length)*sz+j by omega];exact(g _ h2).2 j hj
theorem aeE {sz:Nat}{ys:List V}{news:List Value}(h:mU K T w sz ys news)(hl:news.length=ys.length*sz)(hone:ys.all (fun v=>dU v.cells)=true):∀u∈news,u.oneCell'=true:=by
 intro u hu;obtain⟨q,hq,rfl⟩:=GJ.1 hu;have hsz:0<sz:=by
  rcases Nat.eq_zero_or_pos sz with h0|h0
  ·subst h0;omega
  ·exact h0
 have hi:q/sz<ys.length:=Nat.div_lt_of_lt_mul (by rw[xK];omega);have hj:=Nat.mod_lt q hsz;obtain⟨h1,h2⟩:=h _ hi;have hr:=h2 _ hj;rw[xK,Nat.div_add_mod,jU hq] at hr;simp only[kG,dU] at hone;have h3:=hone _ (jQ hi);rw[jU hi] at h1 hr;have h4:=h3 _ (jQ (show q% sz<_ by omega));rw[jU ah] at hr;simpa using (aee hr h4).1
theorem apq (h:bE E B0 σ K w){ag:Bool}{sz n:Nat}{tx e:TypeId}{z:V}{y:V}{cy cz:Value}{ys:List V}{zeros:Bool}(hy:Rel K σ.top w y cy)(hz:Rel K σ.top w z cz)(hraw:fM z=true)(hzl:z.cells.length=sz)(hag:(ag||sz==1)=true)(hk:zeros=true->∃k,E.P.underlying tx=some (.int k))(hk':zeros=false->(∃e',E.P.underlying tx=some (.slice e'))\/E.P.underlying tx=some .string)(hzi:zeros=Ng y)(hv:tF σ ag sz z y=some ys)(hone:ys.all (fun v=>dU v.cells)=true)(hn:n=ys.length):∃news,zI E.P w sz n tx cz cy news/\mU K σ.top w sz ys news:=by
 subst hn;let _:=e
 have fin:∀cells,Src E.P w sz ys.length cy cells->(∀w',(Builtin.lenOf cy).run E.P w'= .ok ys.length w')->zeros=false->mU K σ.top w sz ys cells->∃news,zI E.P w sz ys.length tx cz cy news/\mU K σ.top w sz ys news:=
  fun cells hs hl apr hr=>⟨cells,⟨hs.1,aeE hr hs.1 hone,.inl ⟨hk' apr,hl,hs.2⟩⟩,hr⟩
 cases y with
 |int k m=>
  simp only[tF] at hv;split at hv
  ·rename_i hm
   simp only[iE] at hv;subst hv;cases hy;obtain⟨k',hk0⟩:=hk hzi;have hr:=UF hz hraw hzl m.toNat;have hcs:cz.cells.size=sz:=by rw[<-(CZ hz hraw).1,hzl]
   have hzc:Builtin.zeroCells cz.cells m.toNat=(Array.range (m.toNat*sz)).map fun i=>cz.cells[i% cz.cells.size]! :=by unfold Builtin.zeroCells;rw[hcs]
   have hlen:(List.replicate m.toNat z).length=m.toNat:=List.length_replicate;have hrc:mU K σ.top w sz (List.replicate m.toNat z) (Builtin.zeroCells cz.cells m.toNat).toList:=by intro i hi;rw[hlen] at hi;have hg:(List.replicate m.toNat z).getD i aL=z:=(by simp[List.getD,hi]);rw[hg];refine⟨hzl,fun j hj=>?_⟩;have hq:=mul_lt hi hj;have:=hr.2 (i*sz+j) (by simp[hzl];exact hq);have hm:(i*sz+j)% sz=j:=(by rw[xK,Nat.mul_add_mod,Nat.mod_eq_of_lt hj]);rw[YK z.cells sz hzl ah _ _ hq,hm] at this;rw[hzc,UD];exact this
   have hnl:(Builtin.zeroCells cz.cells m.toNat).toList.length=m.toNat*sz:=by rw[hzc];simp
   refine⟨_,⟨by rw[hlen];exact hnl,aeE hrc (by rw[hlen];exact hnl) hone,.inr ⟨⟨k',k,hk0,?_⟩,by rw[hlen],hcs⟩⟩,hrc⟩;rw[hlen,Int.toNat_of_nonneg hm.1]
  ·simp at hv
 |ay c l=>
  simp only[tF] at hv;split at hv
  ·rename_i hs
   simp only[iE] at hv;subst hv;obtain⟨cells,h1,h2⟩:=apl (E:=E) hy hs;refine fin cells h1 (fun w'=>?_) hzi h2;cases hy<;>rfl
  ·simp at hv
 |str s=>
  simp only[tF] at hv;split at hv
  ·rename_i hs
   simp only[iE] at hv;subst hv;subst hs;obtain⟨cells,h1,h2⟩:=apn (E:=E) (e:=e) hy;refine fin cells h1 (fun w'=>?_) hzi h2;cases hy with|str _ b hb=>
   subst hb;simp[Builtin.lenOf]
  ·simp at hv
 |aM loc s off len cap bZ EF=>
  simp only[tF] at hv;split at hv
  ·simp at hv
  ·rename_i he
   have he:bZ=sz:=by simpa using he
   subst he;simp only[iR] at hv;obtain⟨cs,hcs,hv⟩:=hv;split at hv
   ·rename_i hc
    simp only[iE] at hv;subst hv;obtain⟨cells,h1,h2⟩:=apo h hy hcs hc.1 hag hc.2;refine fin cells h1 (fun w'=>?_) hzi h2;rw[iG,yc];cases hy<;>rfl
   ·simp at hv
 |_=>simp[tF] at hv
theorem Step.aeF {E B0 σ K w}(h:bE E B0 σ K w)(s T' b lo:Nat)(hs:¬K.A s):
 Step E B0 (· =s) σ K w (σ.dR s T') {K with A:=fun x=>K.A x\/x=s,ob:=upd K.ob s b,lo:=upd K.lo s lo,hi:=upd K.hi s lo} w:=by
 have hne:∀x,K.A x->x≠s:=fun x hx e=>hs (e▸hx);have e:Ext K σ.top w {K with A:=fun x=>K.A x\/x=s,ob:=upd K.ob s b,lo:=upd K.lo s lo,hi:=upd K.hi s lo} (σ.dR s T').top w:=
  ⟨fun _ h=>⟨.inl h,rfl,rfl,rfl⟩,fun x hx=>.inl ⟨upd_ne _ _ (hne x hx),upd_ne _ _ (hne x hx),upd_ne _ _ (hne x hx),upd_ne _ _ (hne x hx)⟩,fun b i hi=>⟨hi,rfl⟩,fun b hb=>⟨hb,rfl⟩⟩
 refine⟨?_,e,.refl _ _,fun b hb=>hb,fun _ h=>h,fun b o hi=>.inl hi,fun _ h=>.inl h⟩;refine⟨fun loc x ob hx=>?_,fun x hx hlt=>?_,h.I,h.IM,fun l r hl=>?_,fun g cs hg=>(h.glob g cs hg).ext e,h.rb,h.D⟩
 ·obtain⟨a1,a2,a3⟩:=h.obj loc x ob hx
  exact⟨.inl a1,a2.ext e a1 (fun _=>rfl),a3⟩
 ·by_cases hxs:x=s
  ·subst hxs;simp only[upd_same] at hlt;omega
  ·simp only[upd_ne _ _ hxs] at hlt
   have:=h.own x (hx.resolve_right hxs) hlt;exact⟨by simpa only[upd_ne _ _ hxs] using this.1,by simpa only[upd_ne _ _ hxs] using this.2.1,
    fun o p q=>by simpa only[upd_ne _ _ hxs] using this.2.2 o (by simpa only[upd_ne _ _ hxs] using p) (by simpa only[upd_ne _ _ hxs] using q)⟩
 ·obtain⟨a1,a2⟩:=h.loop l r hl
  exact⟨.inl a1,a2.ext e a1 rfl rfl⟩
theorem bE.drew (h:bE E B0 σ K w):bE E B0 σ K w.drew:=h.same rfl
theorem Step.draw (h:bE E B0 σ K w):Step E B0 new σ K w σ K w.drew:=Step.same h rfl rfl rfl rfl
theorem aeG {olds news:List Value}{zs:Array Value}{q:Nat}(hq:q< (olds++news).length):((olds++news).toArray++zs).getD q undef=(olds++news).getD q undef:=by
 have:q< ((olds++news).toArray++zs).size:=by simp at hq⊢;omega
 have hl:q< (olds++news).toArray.size:=by simpa using hq
 simp only[Array.getD,this,dif_pos];show ((olds++news).toArray++zs)[q]=_;rw[Array.getElem_append_left hl,jU hq];simp
theorem UJ (h:bE E B0 σ K w)(hB:B0<=w.heap.size){t tx ty e:TypeId}{i:TypeInfo}{z:Value}{n sLen sCap s:Nat}{cx:Value}{olds news:List Value}{base:Option Addr}{l ys:List V}(ht:E.P.underlying t=some (.slice e))(hi:E.P.info? e=some i)(hz:i.zero=some z)(hzs:z.cells.size=i.size)(hl:sLen=l.length)(hn:n=ys.length)(hs:zI E.P w i.size n tx z cx news)(hold:∀w',w'.heap=w.heap->(Builtin.firstCells i.size sLen (.slice base sLen sCap)).run E.P w'= .ok olds.toArray w')(hol:olds.length=sLen*i.size)(h47:sLen+n<=2^47)(hb:(sLen+n)*i.bytes<=2^47)(hroom:sCap<sLen+n)(rl:mU K σ.top w i.size l olds)(ry:mU K σ.top w i.size ys news)(hst:¬K.A s\/σ.top s<sLen+n):
 Done E B0 (· =s) σ K w (Builtin.append_ #[t,tx] ty #[.slice base sLen sCap,cx]) (.ay (.own i.size s) (l++ys)) (σ.dR s (sLen+n)):=by
 have hrun:=run_append_grow' (ty:=ty) ht hi hz hs hold h47 hb hroom;have hge:=grownCap_ge w (sLen+n) sCap e;generalize grownCap w (sLen+n) sCap e=nc at hrun hge;have hlen:(olds++news).length=(sLen+n)*i.size:=by rw[RS,hol,hs.len,rM]
 have hvs:((olds++news).toArray++Builtin.zeroCells z.cells (nc-(sLen+n))).size=nc*i.size:=by
  rw[Array.size_append];have:(olds++news).toArray.size=(sLen+n)*i.size:=by simpa using hlen
  rw[this];simp only[Builtin.zeroCells,Array.size_map,Array.size_range,hzs];rw[<-rM];congr 1;omega
 have hlo:(sLen+n)*i.size<=((olds++news).toArray++Builtin.zeroCells z.cells (nc-(sLen+n))).size:=by rw[hvs];exact rO _ hge
 have hstep:=(Step.draw (new:=(· =s)) h).trans (Step.aeb (w:=w.drew) h.drew hB s (sLen+n) hst ((olds++news).toArray++Builtin.zeroCells z.cells (nc-(sLen+n))) e ((sLen+n)*i.size) hlo);have hll:(l++ys).length=sLen+n:=by rw[RS,hl,hn]
 have rc:=(aeD rl ry (by rw[hol,hl])).ext hstep.ext;refine⟨_,_,_,hrun,?_,hstep⟩;have key:Rel (K.CY s w.drew.heap.size ((sLen+n)*i.size) ((olds++news).toArray++Builtin.zeroCells z.cells (nc-(sLen+n))).size) (σ.dR s (sLen+n)).top
  (w.drew.alloc (.cells ((olds++news).toArray++Builtin.zeroCells z.cells (nc-(sLen+n))) e)) (.ay (.own i.size s) (l++ys)) (.slice (some (at_ w.heap.size 0)) (l++ys).length nc):=by
  refine .ay _ _ w.heap.size 0 i.size nc (fun p q=>(olds++news).getD (p*i.size+q) undef) ah (fun p hp=>(rc p hp).1) (fun p q hp hq=>?_) (fun p q hp hq=>(rc p hp).2 q hq) ?_
  ·have hpq:=mul_lt (hll▸hp) hq
   refine⟨?_,.inr ⟨rfl,ah⟩⟩;have:=Nq (w:=w.drew) (vals:=(olds++news).toArray++Builtin.zeroCells z.cells (nc-(sLen+n))) (t:=e) (fz:=(0,0)) (i:=p*i.size+q) ah;rw[aeG ah] at this;rw[nH];exact this
  ·refine⟨rfl,.inr rfl,?_,fun _=>⟨?_,?_,?_⟩⟩
   ·show _<=upd σ.top s _ s
    rw[upd_same,hll];exact iP _
   ·show upd K.ob s _ s=_
    rw[upd_same];rfl
   ·show upd K.lo s _ s=_
    rw[upd_same,hll,nH]
   ·show upd K.hi s _ s=_
    rw[upd_same,hvs,nH]
 rw[hll] at key;exact key
theorem aps (b o:Nat)(v:Value)(w:World):Only b w (w.setCell ⟨b,o,none⟩ v):=
 ⟨rfl,rfl,rfl,by simp[World.setCell],fun k hk _=>by simp[World.setCell,Array.getElem?_modify,Ne.symm hk],iP _⟩
theorem Only.trans {b:Nat}{w w1 w2:World}(h:Only b w w1)(g:Only b w1 w2):Only b w w2:=
 ⟨g.os.trans h.os,g.tape.trans h.tape,g.output.trans h.output,dJ h.size g.size,fun k hk hl=>(g.block k hk (gM hl h.size)).trans (h.block k hk hl),dJ h.dr g.dr⟩
theorem aeH (b:Nat):∀(vs:List Value)(o:Nat)(w:World),Only b w (w.setCells b o vs)
 | [],_,_=>⟨rfl,rfl,rfl,iP _,fun _ _ _=>rfl,iP _⟩
 |v::r,o,w=>(aps b o v w).trans (aeH b r (o+1) _)
theorem apt (h:bE E B0 σ K w)(hB:B0<=w.heap.size){t tx ty e:TypeId}{i:TypeInfo}{z:Value}{b o cap s:Nat}{cx:Value}{news:List Value}{l ys:List V}(ht:E.P.underlying t=some (.slice e))(hi:E.P.info? e=some i)(hz:i.zero=some z)(hsz:0<i.size)(hys:ys≠[])(hx:Rel K σ.top w (.ay (.own i.size s) l) (.slice (some (at_ b o)) l.length cap))(hhead:qR i.size l=true)(hs:zI E.P w i.size ys.length tx z cx news)(h47:ys.length<=2^47)(hb:ys.length*i.bytes<=2^47)(hroom:l.length+ys.length<=cap)(ry:mU K σ.top w i.size ys news)(hT:σ.top s=l.length):
 Done E B0 new σ K w (Builtin.append_ #[t,tx] ty #[.slice (some (at_ b o)) l.length cap,cx]) (.ay (.own i.size s) (l++ys)) (σ.dR s (l.length+ys.length)):=by
 have hyl:0<ys.length:=wh.2 hys;have hnl:0<news.length:=by rw[hs.len];exact Nat.mul_pos hyl hsz
 generalize hgl:l.length=ln at hx;cases hx with
 |eP _ a ha hc=>omega|ay _ _ _ _ n _ val hle hn hcell hrel hc=>
 obtain⟨hc1,hA,_,hc2⟩:=hc;obtain⟨c1,c2,c3⟩:=hc2 hT.symm;subst hc1;have hsum:(l.length+ys.length)*i.size=l.length*i.size+ys.length*i.size:=rM _ _ _;have aEq:=rO i.size hroom;have hlt:K.lo s<K.hi s:=by rw[c2,c3];have:=hs.len;omega
 obtain⟨o1,o2,o3⟩:=h.own s hA hlt;have UK:∀j,j<news.length->(∃v,w.cell? (at_ b (o+l.length*i.size+j))=some v)/\w.frozen? (at_ b (o+l.length*i.size+j))=false:=by intro j hj;have:=o3 (o+l.length*i.size+j) ah (by have:=hs.len;omega);rw[c1] at this;exact this.2
 have hst:=run_storeCells_cells (P:=E.P) b (o+l.length*i.size) news 0 w (fun j hj=>by obtain⟨v,hv⟩:=(UK j hj).1;rw[Nat.add_zero,hv];rfl) (fun j hj=>by rw[Nat.add_zero];exact(UK j hj).2) hs.one;simp only[Nat.add_zero] at hst;have hrun:=run_append_room' (ty:=ty) (sLen:=l.length) (base:=some (at_ b o)) (w':=w.setCells b (o+l.length*i.size) news) ht hi hz hs h47 hb hroom (fun a ha=>by simp only[iE] at ha;subst ha;rw[addr_add];exact hst) (fun hn=>by cases hn);have hstep:=Step.EC (new:=new) h hB (s:=s) (n:=news.length) (T':=l.length+ys.length) (w':=w.setCells b (o+l.length*i.size) news) hA ah hnl (by rw[c2,c3,hs.len];omega) (by rw[c1];exact aeH b news _ w)
  (fun q h1 h2=>by rw[c1];have:=World.cell?_setCells_in b news (o+l.length*i.size) w (fun j hj=>by obtain⟨v,hv⟩:=(UK j hj).1;rw[hv];rfl) (q-(o+l.length*i.size)) ah;rw[show o+l.length*i.size+(q-(o+l.length*i.size))=q by omega] at this;exact⟨_,this⟩)
  (fun q hq=>by rw[c1];exact World.cell?_setCells_out b news _ w _ (fun _ _=>by show q<_\/_<=q;omega))
  (fun q=>World.frozen?_setCells b news _ w _)
 refine⟨_,_,_,hrun,?_,hstep⟩;have hll:(l++ys).length=l.length+ys.length:=RS;have key:Rel (K.EC s news.length) (σ.dR s (l.length+ys.length)).top (w.setCells b (o+l.length*i.size) news) (.ay (.own i.size s) (l++ys)) (.slice (some (at_ b o)) (l++ys).length cap):=by
  refine .ay _ _ b o i.size cap (fun p q=>if p<l.length then val p q else news.getD ((p-l.length)*i.size+q) undef) ah (fun p hp=>?_) (fun p q hp hq=>?_) (fun p q hp hq=>?_) ?_
  ·by_cases h1:p<l.length
   ·rw[qV h1];exact hn p h1
   ·rw[qW (Nat.not_lt.1 h1)];exact(ry _ ah).1
  ·by_cases h1:p<l.length
   ·obtain⟨g1,g2⟩:=hcell p q h1 hq
    obtain⟨e1,e2⟩:=hstep.ext.I _ _ g2;simp only[h1,if_true];exact⟨e2.trans g1,e1⟩
   ·have h2:p-l.length<ys.length:=ah
    have hpq:=mul_lt h2 hq;have hm:p*i.size=(p-l.length)*i.size+l.length*i.size:=(by rw[<-rM];congr 1;omega);simp only[h1,if_false];refine⟨?_,.inr ⟨c1.symm,ah,by have:=hs.len;omega⟩⟩;have hlt':(p-l.length)*i.size+q<news.length:=(by rw[hs.len];exact hpq);have:=World.cell?_setCells_in b news (o+l.length*i.size) w (fun j hj=>by obtain⟨v,hv⟩:=(UK j hj).1;rw[hv];rfl) ((p-l.length)*i.size+q) hlt';rw[jU hlt',<-this];congr 2;omega
  ·by_cases h1:p<l.length
   ·rw[qV h1]
    simp only[h1,if_true];exact(hrel p q h1 hq).ext hstep.ext
   ·rw[qW (Nat.not_lt.1 h1)]
    simp only[h1,if_false];exact((ry _ ah).2 q hq).ext hstep.ext
  ·refine⟨rfl,hA,?_,fun _=>⟨c1,?_,?_⟩⟩
   ·show _<=upd σ.top s _ s
    rw[upd_same,hll];exact iP _
   ·show upd K.lo s _ s=_
    rw[upd_same,hll,c2,hs.len];omega
   ·exact c3
 rw[hll] at key;exact key
end
section
variable {E:Env}{B0:Nat}{σ:ak}{K:aU}{w:World}{new:Nat->Prop}{T:Nat->Nat}
theorem Ny {c:Cap}{l:List V}{cx:Value}{sz:Nat}(hx:Rel K T w (.ay c l) cx)(hs:qR sz l=true)(hc:∀n s,c= .own n s->n=sz):(∃a,cx= .slice a 0 0/\(c= .nil->a=none)/\l=[]/\Ni K T c)\/∃(b o cap:Nat) (val:Nat->Nat->Value),cx= .slice (some (at_ b o)) l.length cap/\l.length<=cap/\(∀i,i<l.length->(l.getD i aL).cells.length=sz)/\ (∀i j,i<l.length->j<sz->w.cell? (at_ b (o+i*sz+j))=some (val i j)/\K.I b (o+i*sz+j))/\ (∀i j,i<l.length->j<sz->Rel K T w ((l.getD i aL).cells.getD j aL) (val i j))/\uS K T c sz b o l.length cap:=by
 cases hx with
 |eP _ a ha hcn=>exact .inl ⟨a,rfl,ha,rfl,hcn⟩|ay _ _ b o n cap val hle hn hcell hrel hcap=>
  right;by_cases h0:l=[]
  ·subst h0
   refine⟨b,o,cap,val,rfl,hle,fun i hi=>absurd hi (gL i),fun i j hi=>absurd hi (gL i),fun i j hi=>absurd hi (gL i),?_⟩;cases c with
   |own n' s=>have h1:=hc n' s rfl;have h2:=hcap.1;have:n=sz:=ah;rw[<-this];exact hcap|sh=>trivial|full=>exact hcap|nil=>exact hcap
  ·obtain rfl:=YD hs hn (wh.2 h0)
   exact⟨b,o,cap,val,rfl,hle,hn,hcell,hrel,hcap⟩
theorem aeI {P:Program}{e:TypeId}{sz bs:Nat}{z:V}(h1:fq P e=some sz)(h2:xQ P e=some bs)(h3:kC P e=some z):∃i cz,P.info? e=some i/\i.size=sz/\i.bytes=bs/\i.zero=some cz/\ofValue cz=some z:=by unfold fq at h1;unfold xQ at h2;unfold kC at h3;simp only[bf,iR] at h1 h2 h3;obtain⟨i,hi,e1⟩:=h1;obtain⟨i',hi',e2⟩:=h2;obtain⟨cz,⟨aEr,aeJ,e3⟩,e4⟩:=h3;rw[hi] at hi' aeJ;cases hi';cases aeJ;exact⟨i,cz,hi,e1,e2,e3,e4⟩
theorem UL {sz n cap:Nat}{b o:Nat}{val:Nat->Nat->Value}(hcell:∀i j,i<n->j<sz->w.cell? (at_ b (o+i*sz+j))=some (val i j))(w':World)(hw:w'.heap=w.heap):(Builtin.firstCells sz n (.slice (some (at_ b o)) n cap)).run E.P w'= .ok ((List.range (n*sz)).map fun q=>val (q/sz) (q% sz)).toArray w':=by
 refine run_firstCells_some (P:=E.P) w' sz n (at_ b o) n cap _ aD (fun j v hj=>?_);have hjl:j<n*sz:=by have:=(qm.1 hj).1;simpa using this
 have hn0:0<sz:=by
  rcases Nat.eq_zero_or_pos sz with h|h
  ·subst h;simp at hjl
  ·exact h
 simp[hjl] at hj;subst hj;rw[addr_add];have:=hcell (j/sz) (j% sz) (Nat.div_lt_of_lt_mul (by rw[xK];exact hjl)) (Nat.mod_lt _ hn0);rw[cell_of_heap (w:=w) (by rw[hw])]
 rwa[sZ,xK,Nat.div_add_mod] at this
theorem YM {l:List V}{sz:Nat}{val:Nat->Nat->Value}(hn:∀i,i<l.length->(l.getD i aL).cells.length=sz)(hrel:∀i j,i<l.length->j<sz->Rel K T w ((l.getD i aL).cells.getD j aL) (val i j)):
 mU K T w sz l ((List.range (l.length*sz)).map fun q=>val (q/sz) (q% sz)):=
 fun i hi=>⟨hn i hi,fun j hj=>by rw[aeA hi hj];exact hrel i j hi hj⟩
theorem Da {t tx ty e:TypeId}{i:TypeInfo}{z cx:Value}{news:List Value}{n sLen sCap:Nat}{base:Option Addr}(ht:E.P.underlying t=some (.slice e))(hi:E.P.info? e=some i)(hz:i.zero=some z)(hs:zI E.P w i.size n tx z cx news)(hn:n=0)(hle:sLen<=sCap):(Builtin.append_ #[t,tx] ty #[.slice base sLen sCap,cx]).run E.P w= .ok (.slice base sLen sCap) w:=by
 subst hn;have h0:news=[]:=mh (by rw[hs.len];simp);subst h0;exact run_append_room' (w':=w) (base:=base) ht hi hz hs ah aD ah (fun a _=>rfl) (fun _=>rfl)
theorem apu (s n:Nat)(h:σ.top s=n):σ.dR s n=σ:=by
 unfold ak.dR;have:upd σ.top s n=σ.top:=by
  funext x;unfold upd;split
  ·rename_i hx;rw[hx,h]
  ·rfl
 rw[this]
theorem apv (h:bE E B0 σ K w)(hB:B0<=w.heap.size){t tx ty e:TypeId}{i:TypeInfo}{z:Value}{st:Nat}{c:Cap}{l ys:List V}{cx cy:Value}{news:List Value}{v:V}{σ':ak}(ht:E.P.underlying t=some (.slice e))(hi:E.P.info? e=some i)(hz:i.zero=some z)(hzs:z.cells.size=i.size)(hsz:0<i.size)(hst:¬K.A st)(hx:Rel K σ.top w (.ay c l) cx)(hs:zI E.P w i.size ys.length tx z cy news)(ry:mU K σ.top w i.size ys news)(h47:l.length+ys.length<=2^47)(hb:(l.length+ys.length)*i.bytes<=2^47)(hhead:qR i.size l=true)(hv:(match c with
   |.own n s=>if n=i.size/\σ.top s=l.length then some (.ay (.own n s) (l++ys),σ.dR s (l.length+ys.length)) else none|.nil|.full=>some (.ay (.own i.size st) (l++ys),σ.dR st (l.length+ys.length))|.sh=>none)=some (v,σ')):
 Done E B0 (· =st) σ K w (Builtin.append_ #[t,tx] ty #[cx,cy]) v σ':=by
 have hb':ys.length*i.bytes<=2^47:=dJ (rO _ (Nat.le_add_left _ _)) hb;have imp:∀{s:Nat}{m:Sem Value}{v:V}{σ':ak},K.A s->Done E B0 (· =s) σ K w m v σ'->Done E B0 (· =st) σ K w m v σ':=by rintro s m v σ' hA ⟨a,b,c,d,e,f⟩;exact⟨a,b,c,d,e,f.imp fun x hx=>.inl (hx▸hA)⟩
 have fresh:∀cx,Rel K σ.top w (.ay .full l) cx\/(∃a,cx= .slice a 0 0/\l=[])->Done E B0 (· =st) σ K w (Builtin.append_ #[t,tx] ty #[cx,cy]) (.ay (.own i.size st) (l++ys)) (σ.dR st (l.length+ys.length)):=by
  intro cx hx;have hx':(∃a,cx= .slice a 0 0/\l=[])\/∃(b o:Nat) (val:Nat->Nat->Value),cx= .slice (some (at_ b o)) l.length l.length/\(∀p,p<l.length->(l.getD p aL).cells.length=i.size)/\
   (∀p j,p<l.length->j<i.size->w.cell? (at_ b (o+p*i.size+j))=some (val p j)/\K.I b (o+p*i.size+j))/\
   (∀p j,p<l.length->j<i.size->Rel K σ.top w ((l.getD p aL).cells.getD j aL) (val p j)):=by
   rcases hx with hx|hx
   ·rcases Ny hx hhead (fun n s hh=>by cases hh) with ⟨a,h1,_,h2,_⟩| ⟨b,o,cap,val,h1,h2,h3,h4,h5,h6⟩
    ·exact .inl ⟨a,h1,h2⟩
    ·have h6:cap=l.length:=h6
     subst h6;exact .inr ⟨b,o,val,h1,h3,h4,h5⟩
   ·exact .inl hx
  rcases hx' with ⟨a,rfl,rfl⟩| ⟨b,o,val,rfl,h3,h4,h5⟩
  ·by_cases hys:ys=[]
   ·subst hys
    have hrun:=Da (ty:=ty) (base:=a) (sLen:=0) (sCap:=0) ht hi hz hs rfl (iP _);have hstep:=Step.aeF h st 0 0 0 hst;refine⟨_,_,_,hrun,?_,hstep⟩;exact .eP _ a (fun h=>bL) ⟨Or.inr rfl,fun _=>by simp only[upd_same]⟩
   ·have hl:0<ys.length:=wh.2 hys
    have:=UJ (ty:=ty) (base:=a) (olds:=[]) (l:=[]) (sLen:=0) (sCap:=0) h hB ht hi hz hzs rfl rfl hs (fun w' _=>UH w' i.size a) aD (by simpa using h47) GD ah (fun p hp=>absurd hp (gL p)) ry (.inl hst);simpa using this
  ·by_cases hys:ys=[]
   ·subst hys
    have hrun:=Da (ty:=ty) (base:=some (at_ b o)) (sLen:=l.length) (sCap:=l.length) ht hi hz hs rfl (iP _);have hstep:=Step.aeF h st (l.length+0) b (o+l.length*i.size) hst;refine⟨_,_,_,hrun,?_,hstep⟩;rw[nV];refine .ay _ _ b o i.size l.length val (iP _) h3 (fun p j hp hj=>h4 p j hp hj) (fun p j hp hj=>(h5 p j hp hj).ext hstep.ext) ⟨rfl,.inr rfl,?_,fun _=>⟨?_,?_,?_⟩⟩
    ·show _<=upd σ.top st _ st
     rw[upd_same];exact iP _
    ·exact upd_same _ _ _
    ·exact upd_same _ _ _
    ·exact upd_same _ _ _
   ·have hl:0<ys.length:=wh.2 hys
    exact UJ (ty:=ty) (base:=some (at_ b o)) h hB ht hi hz hzs rfl rfl hs (fun w' hw=>UL (fun p j hp hj=>(h4 p j hp hj).1) w' hw) aD h47 hb ah (YM h3 h5) ry (.inl hst)
 cases c with
 |sh=>simp at hv|nil=>
  simp only[iE,mF] at hv;obtain⟨rfl,rfl⟩:=hv;refine fresh cx (.inr ?_);cases hx with
  |eP _ a ha _=>exact⟨a,rfl,rfl⟩|ay _ _ _ _ _ _ _ _ _ _ _ hc=>exact hc.elim
 |full=>simp only[iE,mF] at hv;obtain⟨rfl,rfl⟩:=hv;exact fresh cx (.inl hx)
 |own n s=>
  simp only at hv;split at hv
  ·rename_i hc
   obtain⟨rfl,hT⟩:=hc;simp only[iE,mF] at hv;obtain⟨rfl,rfl⟩:=hv;by_cases hys:ys=[]
   ·subst hys
    have e1:σ.dR s (l.length+([]:List V).length)=σ:=apu s _ hT;rw[e1,nV];rcases Ny hx hhead (fun n s hh=>by cases hh;rfl) with ⟨a,rfl,_,rfl,_⟩| ⟨b,o,cap,val,rfl,h2,_⟩
    ·exact⟨_,_,_,Da (ty:=ty) (base:=a) (sLen:=0) (sCap:=0) ht hi hz hs rfl (iP _),hx,.refl h⟩
    ·exact⟨_,_,_,Da (ty:=ty) (base:=some (at_ b o)) ht hi hz hs rfl h2,hx,.refl h⟩
   ·have hl:0<ys.length:=wh.2 hys
    rcases Ny hx hhead (fun n s hh=>by cases hh;rfl) with ⟨a,rfl,_,rfl,hcn⟩| ⟨b,o,cap,val,rfl,h2,h3,h4,h5,h6⟩
    ·have:=UJ (ty:=ty) (base:=a) (olds:=[]) (l:=[]) (sLen:=0) (sCap:=0) (s:=s) h hB ht hi hz hzs rfl rfl hs (fun w' _=>UH w' i.size a) aD (by simpa using h47) GD ah (fun p hp=>absurd hp (gL p)) ry (.inr (by simp at hT;omega))
     simpa using imp hcn.1 this
    ·by_cases hr:l.length+ys.length<=cap
     ·exact apt (ty:=ty) h hB ht hi hz hsz hys hx hhead hs ah hb' hr ry hT
     ·exact imp h6.2.1 (UJ (ty:=ty) (base:=some (at_ b o)) (s:=s) h hB ht hi hz hzs rfl rfl hs (fun w' hw=>UL (fun p j hp hj=>(h4 p j hp hj).1) w' hw) aD h47 hb ah (YM h3 h5) ry (.inr ah))
  ·simp at hv
end
section
variable {E:Env}{B0:Nat}{σ:ak}{K:aU}{w:World}{new:Nat->Prop}{T:Nat->Nat}
theorem Step.eu (h:bE E B0 σ K w)(loc:Loc):Step E B0 new σ K w (σ.eu loc) K w:=by
 refine⟨⟨fun loc' s ob hs=>?_,h.own,h.I,h.IM,h.loop,h.glob,h.rb,h.D⟩,.refl _ _ _,.refl _ _,fun _ h=>h,fun _ h=>.inl h,fun _ _ h=>.inl h,fun _ h=>.inl h⟩;by_cases hl:loc'=loc
 ·subst hl;simp[ak.eu,upd_same] at hs
 ·simp only[ak.eu,upd_ne _ _ hl] at hs
  exact h.obj loc' s ob hs
theorem Step.apw (h:bE E B0 σ K w)(loc:Loc){st:Nat}(hst:¬K.A st):
 Step E B0 (· =st) σ K w (σ.setObj loc st (.cells [])) {K with A:=fun x=>K.A x\/x=st,sz:=upd K.sz st 0,lo:=upd K.lo st 0,hi:=upd K.hi st 0} w:=by
 have hne:∀x,K.A x->x≠st:=fun x hx e=>hst (e▸hx);have e:Ext K σ.top w {K with A:=fun x=>K.A x\/x=st,sz:=upd K.sz st 0,lo:=upd K.lo st 0,hi:=upd K.hi st 0} σ.top w:=
  ⟨fun x hx=>⟨.inl hx,rfl,rfl,upd_ne _ _ (hne x hx)⟩,fun x hx=>.inl ⟨rfl,rfl,upd_ne _ _ (hne x hx),upd_ne _ _ (hne x hx)⟩,fun b i hi=>⟨hi,rfl⟩,fun b hb=>⟨hb,rfl⟩⟩
 refine⟨?_,e,.refl _ _,fun b hb=>hb,fun _ h=>h,fun b o hi=>.inl hi,fun _ h=>.inl h⟩;refine⟨fun loc' x ob hx=>?_,fun x hx hlt=>?_,h.I,h.IM,fun l r hl=>?_,fun g cs hg=>(h.glob g cs hg).ext e,h.rb,h.D⟩
 ·by_cases hl:loc'=loc
  ·subst hl
   simp only[ak.setObj,upd_same,iE,mF] at hx;obtain⟨rfl,rfl⟩:=hx;exact⟨.inr rfl,⟨fun _=>upd_same _ _ _,fun hn=>absurd rfl hn⟩,fun hr=>hr.elim⟩
  ·simp only[ak.setObj,upd_ne _ _ hl] at hx
   obtain⟨a1,a2,a3⟩:=h.obj loc' x ob hx;exact⟨.inl a1,a2.ext e a1 (fun _=>rfl),a3⟩
 ·by_cases hxs:x=st
  ·subst hxs;simp only[upd_same] at hlt;omega
  ·simp only[upd_ne _ _ hxs] at hlt
   have:=h.own x (hx.resolve_right hxs) hlt;exact⟨this.1,this.2.1,fun o p q=>this.2.2 o (by simpa only[upd_ne _ _ hxs] using p) (by simpa only[upd_ne _ _ hxs] using q)⟩
 ·obtain⟨a1,a2⟩:=h.loop l r hl
  exact⟨.inl a1,a2.ext e a1 rfl rfl⟩
def wK (K:aU)(T:Nat->Nat)(w:World)(fl:List V)(cells:List Value):Prop:=fl.length=cells.length/\∀q,q<fl.length->Rel K T w (fl.getD q aL) (cells.getD q undef)
theorem wK.ext {K' T' w'}{fl:List V}{cells:List Value}(h:wK K T w fl cells)(e:Ext K T w K' T' w'):wK K' T' w' fl cells:=⟨h.1,fun q hq=>(h.2 q hq).ext e⟩
theorem wK.append {a b:List V}{x y:List Value}(h:wK K T w a x)(g:wK K T w b y):wK K T w (a++b) (x++y):=by
 refine⟨by simp[h.1,g.1],fun q hq=>?_⟩;by_cases h1:q<a.length
 ·rw[qV h1,qV (by have:=h.1;omega)];exact h.2 q h1
 ·rw[qW ah,qW (by have:=h.1;omega),<-h.1]
  exact g.2 _ (by simp at hq;omega)
theorem UM {sz:Nat}:∀{l:List V}{cells:List Value},mU K T w sz l cells->cells.length=l.length*sz->wK K T w (l.flatMap V.cells) cells
 | [],cells,_,hl=>by have:cells=[]:=mh xI;subst this;exact⟨rfl,fun q hq=>absurd hq (gL q)⟩
 |v::l,cells,h,hl=>by
  have hs:(l.length+1)*sz=l.length*sz+sz:=rP _ _;rw[List.length_cons,hs] at hl;obtain⟨h1,h2⟩:=h 0 aD;have h1:v.cells.length=sz:=h1;have e:cells=cells.take sz++cells.drop sz:=(tq _ _).symm;rw[e,mo];refine wK.append ⟨by simp[h1];omega,fun q hq=>?_⟩ (UM (sz:=sz) (fun i hi=>?_) eY)
  ·have:=h2 q ah
   rw[wJ _ ah];simpa using this
  ·obtain⟨g1,g2⟩:=h (i+1) eY
   refine⟨by simpa using g1,fun j hj=>?_⟩;have:=g2 j hj;rw[x9];have e2:sz+(i*sz+j)=(i+1)*sz+j:=by rw[rP];omega
   rw[e2];simpa using this
theorem YN (h:bE E B0 σ K w)(hB:B0<=w.heap.size){t tx ty e:TypeId}{i:TypeInfo}{z:Value}{n sLen sCap st:Nat}{loc:Loc}{ag:Bool}{cx:Value}{olds news:List Value}{base:Option Addr}{fl:List V}(ht:E.P.underlying t=some (.slice e))(hi:E.P.info? e=some i)(hz:i.zero=some z)(hzs:z.cells.size=i.size)(hsz:0<i.size)(hs:zI E.P w i.size n tx z cx news)(hold:∀w',w'.heap=w.heap->(Builtin.firstCells i.size sLen (.slice base sLen sCap)).run E.P w'= .ok olds.toArray w')(hol:olds.length=sLen*i.size)(h47:sLen+n<=2^47)(hb:(sLen+n)*i.bytes<=2^47)(hroom:sCap<sLen+n)(rf:wK K σ.top w fl (olds++news))(hst:¬K.A st):
 Done E B0 (· =st) σ K w (Builtin.append_ #[t,tx] ty #[.slice base sLen sCap,cx]) (.aM loc st 0 (sLen+n) (sLen+n) i.size ag) (σ.setObj loc st (.cells fl)):=by
 have hrun:=run_append_grow' (ty:=ty) ht hi hz hs hold h47 hb hroom;have hge:=grownCap_ge w (sLen+n) sCap e;generalize grownCap w (sLen+n) sCap e=nc at hrun hge;have hlen:(olds++news).length=(sLen+n)*i.size:=by rw[RS,hol,hs.len,rM]
 have hvs:((olds++news).toArray++Builtin.zeroCells z.cells (nc-(sLen+n))).size=nc*i.size:=by
  rw[Array.size_append];have:(olds++news).toArray.size=(sLen+n)*i.size:=by simpa using hlen
  rw[this];simp only[Builtin.zeroCells,Array.size_map,Array.size_range,hzs];rw[<-rM];congr 1;omega
 have hfl:fl.length=(sLen+n)*i.size:=by rw[rf.1,hlen]
 have hpos:0< (sLen+n)*i.size:=Nat.mul_pos ah hsz;have hle:(sLen+n)*i.size<=nc*i.size:=rO _ hge;have hstep:=(Step.draw (new:=(· =st)) h).trans (Step.Nn (w:=w.drew) h.drew hB hst loc (.cells fl) (.cells ((olds++news).toArray++Builtin.zeroCells z.cells (nc-(sLen+n))) e) (nc*i.size) (fun K' e' _ hb' hs'=>by refine⟨fun h0=>by rw[h0] at hfl;simp at hfl;omega,fun _=>⟨M0,_,e,by rw[hb'];exact heap_alloc_new w.drew _,by rw[hs',hvs],by rw[hfl,hvs];exact hle,fun q hq=>?_⟩⟩;rw[aeG ah];have e0:Ext K σ.top w K σ.top w.drew:=(Step.draw (new:=fun _=>False) h).ext;exact(rf.2 q hq).ext (e0.trans e')));refine⟨_,_,_,hrun,?_,hstep⟩;have key:Rel (K.lC st w.drew.heap.size (nc*i.size) loc) (σ.setObj loc st (.cells fl)).top (w.drew.alloc (.cells ((olds++news).toArray++Builtin.zeroCells z.cells (nc-(sLen+n))) e)) (.aM loc st 0 (sLen+n) (sLen+n) i.size ag)
  (.slice (some (at_ ((K.lC st w.drew.heap.size (nc*i.size) loc).blk st) 0)) (sLen+n) nc):=
  .aM loc st 0 _ _ i.size ag nc (.inr rfl) hge (iP _) TY
 have hblk:(K.lC st w.drew.heap.size (nc*i.size) loc).blk st=w.heap.size:=upd_same _ _ _;rw[hblk] at key;exact key
theorem aeK {b:Nat}{vals:Array Value}{t:TypeId}{off:Nat}{news:List Value}(g1:w.heap[b]? =some (.cells vals t (0,0)))(hle:off+news.length<=vals.size)(hone:∀u∈news,u.oneCell'=true):
 ∃w' vals',(storeCells (at_ b off) news).run E.P w= .ok () w'/\Only b w w'/\w'.heap[b]? =some (.cells vals' t (0,0))/\vals'.size=vals.size/\
  ∀i,i<vals.size->vals'.getD i undef=if off<=i/\i<off+news.length then news.getD (i-off) undef else vals.getD i undef:=by
 have hrun:=run_storeCells_at E.P b off t news 0 vals w g1 ah hone;refine⟨_,_,hrun,?_,setRow_heap w b vals _ t (0,0) g1,eY,fun i ED=>?_⟩
 ·refine⟨rfl,rfl,rfl,by simp[World.setRow],fun k hk _=>?_,iP _⟩
  simp[World.setRow,Array.getElem?_modify,Ne.symm hk]
 ·have hl:(vals.toList.take (off+0)).length=off:=eY
  have harr:∀(l:List Value),l.toArray.getD i undef=l.getD i undef:=fun l=>by simp[Array.getD,List.getD];split<;>simp_all
  rw[harr,jR];by_cases h1:i<off
  ·rw[qV ah,wJ _ ah,if_neg ah]
   simp[List.getD,Array.getD,ED]
  ·rw[qW ah,hl]
   by_cases h2:i-off<news.length
   ·rw[qV h2,if_pos ah]
   ·rw[qW ah,x9,if_neg ah]
    have:off+0+news.length+(i-off-news.length)=i:=ah;rw[this];simp[List.getD,Array.getD,ED]
theorem aeL {loc:Loc}{s:Nat}{ob:iN}(ho:σ.obj loc=some (s,ob)):σ.setObj loc s ob=σ:=by
 unfold ak.setObj;have:upd σ.obj loc (some (s,ob))=σ.obj:=by
  funext l;unfold upd;split
  ·rename_i hl;rw[hl,ho]
  ·rfl
 rw[this]
theorem apx (h:bE E B0 σ K w)(hB:B0<=w.heap.size){loc:Loc}{s off:Nat}{cs fl:List V}{news:List Value}(hcs:σ.bQ loc s=some cs)(rf:wK K σ.top w fl news)(hle:off+fl.length<=cs.length)(hone:∀u∈news,u.oneCell'=true):
 ∃w',(storeCells (at_ (K.blk s) off) news).run E.P w= .ok () w'/\Step E B0 new σ K w (σ.setObj loc s (.cells (iT cs off fl))) K w':=by
 obtain⟨ho,_,_⟩:=h.xY hcs;obtain⟨_,gU,_⟩:=h.obj _ _ _ ho;by_cases hne:cs=[]
 ·subst hne
  have h0:fl=[]:=by cases fl with|nil=>rfl|cons a b=>simp at hle
  subst h0;have h0':news=[]:=mh (by rw[<-rf.1];rfl);subst h0';have hsp:iT [] off []=([]:List V):=by simp[iT]
  rw[hsp,aeL ho];exact⟨w,rfl,.refl h⟩
 ·obtain⟨hb0,vals,t',g1,g2,g3,g4⟩:=gU.2 hne
  obtain⟨w',vals',r1,r2,r3,r4,r5⟩:=aeK (E:=E) (off:=off) (news:=news) g1 (by have:=rf.1;omega) hone;refine⟨w',r1,Step.setCells h hB ho hne g1 r2 r3 r4 (by intro h0;have:=C9 hle;rw[h0] at this;exact hne (mh this.symm)) (by rw[C9 hle,r4];exact g3) (fun e i hi=>?_)⟩;rw[C9 hle] at hi;have hiv:i<vals.size:=gM hi g3;rw[YH hle,r5 i hiv,<-rf.1];by_cases hh:off<=i/\i<off+fl.length
  ·rw[if_pos hh,if_pos hh]
   exact(rf.2 _ ah).ext e
  ·rw[if_neg hh,if_neg hh]
   exact(g4 i hi).ext e
end
section
variable {E:Env}{B0:Nat}{σ:ak}{K:aU}{w:World}{new:Nat->Prop}{T:Nat->Nat}
theorem YO {n b:Nat}(h:dB n b=true):n<=2^47/\n*b<=2^47:=by simp only[dB,aT,decide_eq_true_eq] at h;exact⟨h.2,h.1⟩
theorem apy {sz:Nat}{ys:List V}{news:List Value}(h:mU K T w sz ys news):(ys.flatMap V.cells).length=ys.length*sz:=by
 have:∀v∈ys,v.cells.length=sz:=fun v hv=>by
  obtain⟨i,hi,rfl⟩:=GJ.1 hv;have:=(h i hi).1
  rwa[jU hi] at this
 clear h;induction ys with
 |nil=>simp|cons a l ih=>rw[mo,RS,ih (fun v hv=>this v (by simp[hv])),this a aD,List.length_cons,rP];omega
theorem apz (h:bE E B0 σ K w){loc:Loc}{s:Nat}{cs:List V}(hcs:σ.bQ loc s=some cs){n:Nat}(hn:n<=cs.length):
 ∃vals:Nat->Value,wK K σ.top w (cs.take n) ((List.range n).map vals)/\∀j,j<n->w.cell? (at_ (K.blk s) j)=some (vals j):=by
 obtain⟨ho,_,_⟩:=h.xY hcs;obtain⟨_,gU,_⟩:=h.obj _ _ _ ho;by_cases hne:cs=[]
 ·subst hne
  have:n=0:=by simpa using hn
  subst this;exact⟨fun _=>undef,⟨rfl,fun q hq=>absurd hq (gL q)⟩,fun j hj=>absurd hj (gL j)⟩
 ·obtain⟨hb0,vals,t',g1,g2,g3,g4⟩:=gU.2 hne
  refine⟨fun j=>vals.getD j undef,⟨eY,fun q hq=>?_⟩,fun j hj=>?_⟩
  ·have hq':q<n:=by simp at hq;omega
   rw[wJ _ hq'];have:((List.range n).map fun j=>vals.getD j undef).getD q undef=vals.getD q undef:=by simp[List.getD,hq']
   rw[this];exact g4 q ah
  ·have:j<vals.size:=ah
   simp[World.cell?,g1,this]
theorem apA (h:bE E B0 σ K w)(hB:B0<=w.heap.size){t tx ty e:TypeId}{i:TypeInfo}{z:Value}{st s len cap:Nat}{jH loc:Loc}{ag EF:Bool}{ys cs:List V}{cx cy:Value}{news:List Value}{v:V}{σ':ak}(ht:E.P.underlying t=some (.slice e))(hi:E.P.info? e=some i)(hz:i.zero=some z)(hzs:z.cells.size=i.size)(hsz:0<i.size)(hst:¬K.A st)(hx:Rel K σ.top w (.aM jH s 0 len cap i.size EF) cx)(hs:zI E.P w i.size ys.length tx z cy news)(ry:mU K σ.top w i.size ys news)(h47:len+ys.length<=2^47)(hb:(len+ys.length)*i.bytes<=2^47)(hcs:σ.bQ jH s=some cs)(hv:(if len+ys.length<=cap then if (len+ys.length)*i.size<=cs.length then some (V.aM jH s 0 (len+ys.length) cap i.size ag,σ.setObj jH s (.cells (iT cs (len*i.size) (ys.flatMap V.cells))))else none else if len*i.size<=cs.length then some (.aM loc st 0 (len+ys.length) (len+ys.length) i.size ag,(σ.eu jH).setObj loc st (.cells (cs.take (len*i.size)++ys.flatMap V.cells)))else none)=some (v,σ')):
 Done E B0 (· =st) σ K w (Builtin.append_ #[t,tx] ty #[cx,cy]) v σ':=by
 have hb':ys.length*i.bytes<=2^47:=dJ (rO _ (Nat.le_add_left _ _)) hb;have hfl:=apy ry;have Nz:=UM ry hs.len;have hsum:(len+ys.length)*i.size=len*i.size+ys.length*i.size:=rM _ _ _;obtain⟨ho,hA,hks⟩:=h.xY hcs;split at hv
 ·rename_i hcap
  split at hv
  ·rename_i hle
   simp only[iE,mF] at hv;obtain⟨rfl,rfl⟩:=hv;cases hx with
   |kP=>have hys:ys=[]:=mh ah;subst hys;have e1:iT cs (0*i.size) ([].flatMap V.cells)=cs:=(by simp[iT]);rw[e1,aeL ho];exact⟨_,_,_,Da (ty:=ty) (base:=none) (sLen:=0) (sCap:=0) ht hi hz hs rfl (iP _),.kP jH s i.size ag hA,.refl h⟩|aM _ _ _ _ _ _ _ dP hA' hcc hlc aeM=>obtain⟨w',r1,r2⟩:=apx (new:=(· =st)) h hB hcs Nz (off:=len*i.size) (by rw[hfl];omega) hs.one;have hrun:=run_append_room' (ty:=ty) (sLen:=len) (sCap:=dP) (base:=some (at_ (K.blk s) 0)) (w':=w') ht hi hz hs ah hb' ah (fun a ha=>by simp only[iE] at ha;subst ha;rw[addr_add,nH];exact r1) (fun hn=>by cases hn);exact⟨_,_,_,hrun,.aM jH s 0 _ cap i.size ag dP hA hcc hcap aeM,r2⟩
  ·simp at hv
 ·rename_i hcap
  split at hv
  ·rename_i hle
   simp only[iE,mF] at hv;obtain⟨rfl,rfl⟩:=hv;have grow:∀base dP,(∀w',w'.heap=w.heap->∀vals:Nat->Value,(∀j,j<len*i.size->w.cell? (at_ (K.blk s) j)=some (vals j))->(Builtin.firstCells i.size len (.slice base len dP)).run E.P w'= .ok ((List.range (len*i.size)).map vals).toArray w')->dP<len+ys.length->
    Done E B0 (· =st) σ K w (Builtin.append_ #[t,tx] ty #[.slice base len dP,cy]) (.aM loc st 0 (len+ys.length) (len+ys.length) i.size ag) ((σ.eu jH).setObj loc st (.cells (cs.take (len*i.size)++ys.flatMap V.cells))):=by
    intro base dP hold hroom;obtain⟨vals,g1,g2⟩:=apz h hcs hle;have hd:=Step.eu (new:=(· =st)) h jH;obtain⟨a,b,c,d1,d2,d3⟩:=YN (ty:=ty) (ag:=ag) (loc:=loc) (base:=base) (sLen:=len) (sCap:=dP) (σ:=σ.eu jH) (olds:=(List.range (len*i.size)).map vals) hd.ok hB ht hi hz hzs hsz hs (fun w' hw=>hold w' hw vals g2) aD h47 hb hroom ((g1.append Nz).ext hd.ext) hst;exact⟨a,b,c,d1,d2,hd.trans d3⟩
   cases hx with
   |kP=>exact grow none 0 (fun w' _ vals _=>by simp[Builtin.firstCells]) ah
   |aM _ _ _ _ _ _ _ dP hA' hcc hlc aeM=>
    by_cases hr:len+ys.length<=dP
    ·have hmc:=rO i.size hr
     have hpos:0< (len+ys.length)*i.size:=Nat.mul_pos ah hsz;obtain⟨_,gU,_⟩:=h.obj _ _ _ ho;have hne:cs≠[]:=(by rintro rfl;have:=gU.1 rfl;omega);obtain⟨hb0,vals,t',g1,g2,g3,g4⟩:=gU.2 hne;obtain⟨w',vals',r1,r2,r3,r4,r5⟩:=aeK (E:=E) (off:=len*i.size) (news:=news) g1 (by have:=Nz.1;omega) hs.one;have hrun:=run_append_room' (ty:=ty) (sLen:=len) (sCap:=dP) (base:=some (at_ (K.blk s) 0)) (w':=w') ht hi hz hs ah hb' hr (fun a ha=>by simp only[iE] at ha;subst ha;rw[addr_add,nH];exact r1) (fun hn=>by cases hn);have hcl:(cs.take (len*i.size)++ys.flatMap V.cells).length=(len+ys.length)*i.size:=(by simp only[RS,j3,hfl];omega);have hstep:=Step.aoT (loc:=loc) (cs:=cs.take (len*i.size)++ys.flatMap V.cells) h hB hst ho hne g1 r2 r3 (by intro h0;rw[h0] at hcl;simp at hcl;omega) ah (fun K' e' q hq=>by
      have apB:q<vals.size:=ah;have hrf:=Nz.1;have hlt:(cs.take (len*i.size)).length=len*i.size:=(by simp only[j3];omega);rw[r5 q apB];by_cases h1:q<len*i.size
      ·rw[qV ah,wJ _ h1,if_neg ah]
       exact(g4 q ah).ext e'
      ·rw[qW ah,hlt,if_pos ah]
       exact(Nz.2 _ ah).ext e')
     refine⟨_,_,_,hrun,?_,hstep⟩;have key:Rel (K.lC st (K.blk s) vals'.size loc) ((σ.eu jH).setObj loc st (.cells (cs.take (len*i.size)++ys.flatMap V.cells))).top w' (.aM loc st 0 (len+ys.length) (len+ys.length) i.size ag)
      (.slice (some (at_ ((K.lC st (K.blk s) vals'.size loc).blk st) 0)) (len+ys.length) dP):=
      .aM loc st 0 _ _ i.size ag dP (.inr rfl) hr (iP _) TY
     have hblk:(K.lC st (K.blk s) vals'.size loc).blk st=K.blk s:=upd_same _ _ _;rw[hblk] at key;exact key
    ·exact grow (some (at_ (K.blk s) 0)) dP (fun w' hw vals apC=>by have:=UL (E:=E) (w:=w) (sz:=i.size) (n:=len) (cap:=dP) (b:=K.blk s) (o:=0) (val:=fun p q=>vals (p*i.size+q)) (fun p q hp hq=>by rw[nH];exact apC _ (mul_lt hp hq)) w' hw;rw[this];congr 3;funext q;show vals (q/i.size*i.size+q% i.size)=vals q;rw[xK,Nat.div_add_mod]) ah
  ·simp at hv
theorem YP (h:bE E B0 σ K w)(hB:B0<=w.heap.size){aj zeros:Bool}{st:Nat}{loc:Option Loc}{t tx ty:TypeId}{x y v:V}{cx cy:Value}{σ':ak}(hst:¬K.A st)(hx:Rel K σ.top w x cx)(hy:Rel K σ.top w y cy)(hk:zeros=true->∃k,E.P.underlying tx=some (.int k))(hk':zeros=false->(∃e',E.P.underlying tx=some (.slice e'))\/E.P.underlying tx=some .string)(hv:mR E.P aj zeros σ st loc t x y=some (v,σ')):Done E B0 (· =st) σ K w (Builtin.append_ #[t,tx] ty #[cx,cy]) v σ':=by
 simp only[mR,iR] at hv;obtain⟨e,he,sz,hsz,iO,hby,ag,hag,z,hz,hv⟩:=hv;split at hv
 ·rename_i hc
  obtain⟨c1,c2,c3,c4⟩:=hc;simp only[iR] at hv;obtain⟨ys,hys,hv⟩:=hv;split at hv
  ·rename_i hone
   have hu:=Ns he;obtain⟨i,cz,hi,rfl,rfl,hiz,hzv⟩:=aeI hsz hby hz;have hraw:fM z=true:=G6 hz;obtain⟨aEs,_,hz2⟩:=C8 w hz;have hrz:Rel K σ.top w z cz:=UA hzv;have hzs:cz.cells.size=i.size:=by rw[<-(CZ hrz hraw).1,c2]
   obtain⟨news,hs,ry⟩:=apq (e:=e) h hy hrz hraw c2 c4 hk hk' c1 hys hone rfl;cases x with
   |ay c l=>
    simp only at hv;split at hv
    ·rename_i hr
     obtain⟨hr,hhead⟩:=hr;obtain⟨h47,hb⟩:=YO hr;have aeN:∀loc,(c= .nil\/(c= .full/\ys≠[]))->Done E B0 (· =st) σ K w (Builtin.append_ #[t,tx] ty #[cx,cy]) (.aM loc st 0 (l.length+ys.length) (l.length+ys.length) i.size ag) (σ.setObj loc st (.cells ((l++ys).flatMap V.cells))):=by
      intro loc hcc;have Bb:=UM ry hs.len;rcases Ny hx hhead (fun n s hh=>by rcases hcc with rfl| ⟨rfl,_⟩<;>cases hh) with ⟨a0,rfl,ha0,rfl,_⟩| ⟨b,o,cap,val,rfl,h2,h3,h4,h5,h6⟩
      ·by_cases hy0:ys=[]
       ·subst hy0
        have ha:a0=none:=by
         rcases hcc with h1| ⟨_,h1⟩
         ·exact ha0 h1
         ·exact absurd rfl h1
        subst ha;exact⟨_,_,_,Da (ty:=ty) (base:=none) (sLen:=0) (sCap:=0) hu hi hiz hs rfl (iP _),.kP loc st i.size ag (Or.inr rfl),Step.apw h loc hst⟩
       ·have hl:0<ys.length:=wh.2 hy0
        have:=YN (ty:=ty) (ag:=ag) (loc:=loc) (base:=a0) (olds:=[]) (sLen:=0) (sCap:=0) (fl:=ys.flatMap V.cells) h hB hu hi hiz hzs c3 hs (fun w' _=>UH w' i.size a0) aD (by simpa using h47) GD ah (by simpa using Bb) hst;simpa using this
      ·rcases hcc with rfl| ⟨rfl,hy0⟩
       ·exact h6.elim
       ·have hcap:cap=l.length:=h6
        subst hcap;have hl:0<ys.length:=wh.2 hy0;have rc:=aeD (YM h3 h5) ry aD;exact YN (ty:=ty) (ag:=ag) (loc:=loc) (base:=some (at_ b o)) h hB hu hi hiz hzs c3 hs (fun w' hw=>UL (fun p j hp hj=>(h4 p j hp hj).1) w' hw) aD h47 hb ah (UM rc (by rw[RS,hs.len,RS,rM];simp)) hst
     cases aj with
     |true=>
      cases c with
      |nil=>simp only[bf,mF] at hv;obtain⟨loc,_,rfl,rfl⟩:=hv;exact aeN loc (.inl rfl)
      |full=>
       simp only at hv;split at hv
       ·rename_i hy0
        simp only[iE,mF] at hv;obtain⟨rfl,rfl⟩:=hv;have hn:ys.length=0:=(by simpa using hy0);rcases Ny hx hhead (fun n s hh=>by cases hh) with ⟨a0,rfl,_,rfl,_⟩| ⟨b,o,cap,val,rfl,h2,h3,h4,h5,h6⟩
        ·exact⟨_,_,_,Da (ty:=ty) (base:=a0) (sLen:=0) (sCap:=0) hu hi hiz hs hn (iP _),hx,Step.refl h⟩
        ·exact⟨_,_,_,Da (ty:=ty) (base:=some (at_ b o)) hu hi hiz hs hn ah,hx,Step.refl h⟩
       ·rename_i hy0
        simp only[bf,mF] at hv;obtain⟨loc,_,rfl,rfl⟩:=hv;exact aeN loc (.inr ⟨rfl,fun h0=>hy0 (by rw[h0];rfl)⟩)
      |own n s=>simp at hv|sh=>simp at hv
     |false=>refine apv (ty:=ty) h hB hu hi hiz hzs c3 hst hx hs ry h47 hb hhead ?_;rw[<-hv];cases c<;>rfl
    ·simp at hv
   |aM jH s off len cap bZ EF=>
    simp only at hv;split at hv
    ·rename_i hr
     obtain⟨hr,_,rfl,rfl⟩:=hr;obtain⟨h47,hb⟩:=YO hr;simp only[iR] at hv;obtain⟨loc,_,cs,hcs,hv⟩:=hv;exact apA (ty:=ty) h hB hu hi hiz hzs c3 hst hx hs ry h47 hb hcs hv
    ·simp at hv
   |_=>simp at hv
  ·simp at hv
 ·simp at hv
end
section
variable {E:Env}{B0:Nat}{σ:ak}{K:aU}{w:World}{new:Nat->Prop}{T:Nat->Nat}
theorem aeO {v:V}{n:Int}{c:Value}(hr:Rel K T w v c)(h:oG v=some n):∃k,c= .int k n:=by
 cases v with
 |int k m=>simp only[oG,iE] at h;subst h;cases hr;exact⟨k,rfl⟩|_=>simp[oG] at h
theorem apD (h:bE E B0 σ K w)(hB:B0<=w.heap.size){aj:Bool}{st:Nat}{loc:Option Loc}{t:TypeId}{l c v:V}{cl cc:Value}{σ':ak}(hst:¬K.A st)(hl:Rel K σ.top w l cl)(hc:Rel K σ.top w c cc)(hv:wC E.P aj σ st loc t l c=some (v,σ')):Done E B0 (· =st) σ K w (Instr.makeSlice t cl cc) v σ':=by
 simp only[wC,iR] at hv;obtain⟨e,he,sz,hsz,iO,hby,z,hz,n,hn,m,hm,hv⟩:=hv;split at hv
 ·rename_i hcond
  obtain⟨c1,c2,c3,c4,c5⟩:=hcond;obtain⟨hr1,hr2⟩:=YO c3;obtain⟨k1,rfl⟩:=aeO hl hn;obtain⟨k2,rfl⟩:=aeO hc hm;obtain⟨i,cz,hi,rfl,rfl,hiz,hzv⟩:=aeI hsz hby hz;have hraw:fM z=true:=G6 hz;have hrz:Rel K σ.top w z cz:=UA hzv;have hrl:=UF hrz hraw c5 m.toNat;have hu:=Ns he;have hb:(i.bytes:Int)*m<=281474976710656:=by
   have h1:((m.toNat*i.bytes:Nat):Int)<=((2^47:Nat):Int):=Int.ofNat_le.2 hr2;rw[Int.natCast_mul,Int.toNat_of_nonneg ah,Int.mul_comm] at h1;have:((2^47:Nat):Int)=140737488355328:=aX
   omega
  have hrun:=run_make (P:=E.P) w t e i cz hu hi hiz k1 k2 n m c1 c2 hb ah;have aeP:madeCells cz.cells (m.toNat*i.size)=(Array.range (m.toNat*i.size)).map fun j=>cz.cells[j% cz.cells.size]! :=rfl;have hms:(madeCells cz.cells (m.toNat*i.size)).size=m.toNat*i.size:=by rw[aeP];simp
  split at hv
  ·rename_i h0
   obtain⟨rfl,_⟩:=h0;simp only[iE,mF] at hv;obtain⟨rfl,rfl⟩:=hv;have hstep:=Step.aeb h hB st 0 (.inl hst) (madeCells cz.cells (m.toNat*i.size)) e 0 (nI _);refine⟨_,_,_,hrun,?_,hstep⟩;refine .ay _ [] w.heap.size 0 i.size m.toNat (fun _ _=>undef) (nI _) (fun p hp=>absurd hp (gL p)) (fun p q hp=>absurd hp (gL p)) (fun p q hp=>absurd hp (gL p)) ⟨rfl,Or.inr rfl,nI _,fun _=>⟨upd_same _ _ _,?_,?_⟩⟩
   ·show upd K.lo st _ st=_
    rw[upd_same];simp
   ·show upd K.hi st _ st=_
    rw[upd_same,hms];simp
  ·simp only[iR,bf,mF] at hv
   obtain⟨loc,_,ag,_,rfl,rfl⟩:=hv;have hfl:(List.replicate m.toNat z.cells).flatten.length=m.toNat*i.size:=by simp[c5]
   have hstep:=Step.Nn h hB hst loc (.cells (List.replicate m.toNat z.cells).flatten) (.cells (madeCells cz.cells (m.toNat*i.size)) e) (m.toNat*i.size) (fun K' e' _ hb' hs'=>by refine⟨fun h0=>by rw[h0] at hfl;rw[hs',<-hfl];rfl,fun _=>⟨M0,_,e,Uf,by rw[hs',hms],by rw[hfl,hms];exact iP _,fun q hq=>?_⟩⟩;have:=hrl.2 q hq;rw[<-aeP] at this;exact this.ext e');refine⟨_,_,_,hrun,?_,hstep⟩;have key:Rel (K.lC st w.heap.size (m.toNat*i.size) loc) (σ.setObj loc st (.cells (List.replicate m.toNat z.cells).flatten)).top (w.alloc (.cells (madeCells cz.cells (m.toNat*i.size)) e)) (.aM loc st 0 n.toNat m.toNat i.size ag)
    (.slice (some (at_ ((K.lC st w.heap.size (m.toNat*i.size) loc).blk st) 0)) n.toNat m.toNat):=
    .aM loc st 0 _ _ i.size ag _ (Or.inr rfl) (iP _) ah TY
   have hblk:(K.lC st w.heap.size (m.toNat*i.size) loc).blk st=w.heap.size:=upd_same _ _ _;rw[hblk] at key;exact key
 ·simp at hv
theorem apE (h:bE E B0 σ K w)(hB:B0<=w.heap.size){st:Nat}{loc:Option Loc}{t:TypeId}{len:Nat}{parts:List (Nat×V)}{parts':Array (Nat×Value)}{v:V}{σ':ak}(hst:¬K.A st)(hp:Hg K σ.top w parts parts'.toList)(hv:CS E σ st loc t len parts=some (v,σ')):Done E B0 (· =st) σ K w (Instr.buildSlice t len parts') v σ':=by
 simp only[CS,iR] at hv;obtain⟨e,he,sz,hsz,ag,hag,z,hz,hv⟩:=hv;split at hv
 ·rename_i hc
  obtain⟨c1,c2,c3⟩:=hc;simp only[iR,bf,mF] at hv;obtain⟨cs,hcs,loc,_,rfl,rfl⟩:=hv;obtain⟨cz,hz1,hz2⟩:=C8 w hz;have hraw:fM z=true:=G6 hz;have hrz:=UF (hz2 K σ.top) hraw c2 len;obtain⟨vs',g1,g2,g3⟩:=Nw (K:=K) (T:=σ.top) (w:=w) (place':=fun i=>some (i*sz,sz)) (fun i x hx=>by
   split at hx
   ·exact hx
   ·simp at hx) parts parts'.toList _ _ _ hp hrz hcs
  have hlen:cs.length=len*sz:=by rw[g2.1,g3];simp
  have hu:=Ns he;have hrun:(Instr.buildSlice t len parts').run E.P w= .ok (.slice (some ⟨w.heap.size,0,none⟩) len len) (w.alloc (.cells vs' e)):=by
   have hn:¬2^24<len*sz:=ah
   by_cases h0:len*sz=0
   ·have hl0:len=0:=by
     rcases Nat.mul_eq_zero.1 h0 with h|h
     ·exact h
     ·omega
    subst hl0;simp only[Instr.buildSlice,Sem.run_bind,run_underlying hu,Result.andThen_ok,nZ w hsz,Nat.zero_mul];have g1':Instr.fill (fun i=>some (i*sz,sz)) #[] parts'.toList=some vs':=(by have e0:((Array.range (0*sz)).map fun i=>cz.cells[i% cz.cells.size]!)= #[]:=Uj;rw[<-e0];exact g1);have e1:∀f:Nat->Value,(Array.range 0).map f= #[]:=fun f=>Uj
    simp only[if_true,e1,g1'];simp[newRow]
   ·simp only[Instr.buildSlice,Sem.run_bind,run_underlying hu,Result.andThen_ok,nZ w hsz,hn,gt_iff_lt,if_false,h0,hz1,Sem.run_pure]
    rw[g1];simp[newRow]
  have hms:vs'.size=len*sz:=by rw[<-g2.1,hlen]
  have hstep:=Step.Nn h hB hst loc (.cells cs) (.cells vs' e) (len*sz) (fun K' e' _ hb' hs'=>by refine⟨fun h0=>by rw[h0] at hlen;rw[hs',<-hlen];rfl,fun _=>⟨M0,_,e,Uf,by rw[hs',hms],by rw[hlen,hms];exact iP _,fun q hq=>?_⟩⟩;exact(g2.2 q hq).ext e');refine⟨_,_,_,hrun,?_,hstep⟩;have key:Rel (K.lC st w.heap.size (len*sz) loc) (σ.setObj loc st (.cells cs)).top (w.alloc (.cells vs' e)) (.aM loc st 0 len len sz ag)
   (.slice (some (at_ ((K.lC st w.heap.size (len*sz) loc).blk st) 0)) len len):=
   .aM loc st 0 _ _ sz ag _ (Or.inr rfl) (iP _) (iP _) TY
  have hblk:(K.lC st w.heap.size (len*sz) loc).blk st=w.heap.size:=upd_same _ _ _;rw[hblk] at key;exact key
 ·simp at hv
theorem apF (h:bE E B0 σ K w)(hB:B0<=w.heap.size){t tx ty:TypeId}{x y v:V}{cx cy:Value}{σ':ak}(hx:Rel K σ.top w x cx)(hy:Rel K σ.top w y cy)(hv:copyV E.P σ t x y=some (v,σ')):Done E B0 new σ K w (Builtin.copy_ #[t,tx] ty #[cx,cy]) v σ':=by
 unfold copyV at hv;cases hv
theorem apG (h:bE E B0 σ K w)(hB:B0<=w.heap.size){t ty:TypeId}{x v:V}{cx:Value}{σ':ak}(hx:Rel K σ.top w x cx)(hv:GV E.P σ t x=some (v,σ')):Done E B0 new σ K w (Builtin.clear_ #[t] ty #[cx]) v σ':=by
 unfold GV at hv;cases hv
end
section
variable {E:Env}{B0:Nat}{σ:ak}{K:aU}{w:World}{new:Nat->Prop}{T:Nat->Nat}
theorem apH (h:bE E B0 σ K w){t ty:TypeId}{ts:Array TypeId}{x:V}{cx:Value}{n:Nat}(ht:ts[0]? =some t)(hx:Rel K σ.top w x cx)(hv:rV E σ t x=some n):(Builtin.len_ ts ty #[cx]).run E.P w= .ok (.int .i64 n) w:=by
 unfold rV at hv;split at hv
 ·rename_i m e hu
  simp only[iE] at hv;subst hv;simp[Builtin.len_,ht,run_underlying hu,goInt]
 ·rename_i k e loc s hu
  simp only[bf] at hv;obtain⟨⟨ks,vs⟩,hm,rfl⟩:=hv;unfold ak.gB at hm;split at hm
  ·rename_i s' ks' vs' ho
   split at hm
   ·rename_i hs
    subst hs;simp only[iE,mF] at hm;obtain⟨rfl,rfl⟩:=hm;obtain⟨_,⟨_,es,bX,g1,_,g2,_⟩,_⟩:=h.obj _ _ _ ho;cases hx;have hg:(getObj (K.blk s')).run E.P w= .ok (.map es bX) w:=(by simp[getObj,Sem.run,g1]);simp[Builtin.len_,ht,run_underlying hu,goInt,hg,g2]
   ·simp at hm
  ·simp at hm
 ·rename_i k e ks vs hu
  simp only[iE] at hv;subst hv;cases hx with|dV _ _ b es bX hM hb hk hv' rk rv=>
  have hg:(getObj b).run E.P w= .ok (.map es bX) w:=by simp[getObj,Sem.run,hb]
  simp[Builtin.len_,ht,run_underlying hu,goInt,hg,hk]
 ·rename_i k e hu
  simp only[iE] at hv;subst hv;cases hx;simp[Builtin.len_,ht,run_underlying hu,goInt]
 ·rename_i a x hu
  simp only[bf] at hv;obtain⟨⟨m,e⟩,hm,rfl⟩:=hv;simp[Builtin.len_,ht,run_underlying hu,run_underlying (aeh hm),goInt]
 ·rename_i e c l hu
  simp only[iE] at hv;subst hv;cases hx<;>simp[Builtin.len_,ht,run_underlying hu,goInt]
 ·rename_i e loc s off len cap bZ ag hu
  simp only[iE] at hv;subst hv;cases hx<;>simp[Builtin.len_,ht,run_underlying hu,goInt]
 ·rename_i s hu
  simp only[iE] at hv;subst hv;cases hx with|str _ b hb=>
  subst hb;simp[Builtin.len_,ht,run_underlying hu,goInt]
 ·simp at hv
theorem apI {t e ty:TypeId}{ts:Array TypeId}{x v:V}{cx:Value}{σ':ak}(ht:ts[0]? =some t)(hu:E.P.underlying t=some (.slice e))(hv:(match x with|.ay .nil l|.ay .full l=>some (V.int .i64 l.length,σ)|_=>none)=some (v,σ'))(hx:Rel K σ.top w x cx):
 σ'=σ/\∃c,(Builtin.cap_ ts ty #[cx]).run E.P w= .ok c w/\Rel K σ.top w v c:=by
 cases x with
 |ay c l=>
  cases c with
  |nil=>
   simp only[iE,mF] at hv;obtain⟨rfl,rfl⟩:=hv;cases hx with
   |eP _ a=>exact⟨rfl,_,by cases a<;>simp[Builtin.cap_,ht,run_underlying hu,goInt],.int .i64 0⟩|ay _ _ _ _ _ _ _ _ _ _ _ hc=>exact hc.elim
  |full=>
   simp only[iE,mF] at hv;obtain⟨rfl,rfl⟩:=hv;cases hx with
   |eP _ a=>exact⟨rfl,_,by cases a<;>simp[Builtin.cap_,ht,run_underlying hu,goInt],.int .i64 0⟩|ay _ _ _ _ _ cap _ _ _ _ _ hc=>have hc:cap=l.length:=hc;subst hc;exact⟨rfl,_,by simp[Builtin.cap_,ht,run_underlying hu,goInt],.int .i64 _⟩
  |_=>simp at hv
 |_=>simp at hv
theorem aeQ:∀(l:List V)(cl:List Value)(x v:V)(cx:Value),l.length=cl.length->(∀i,i<l.length->Rel K T w (l.getD i aL) (cl.getD i undef))->Rel K T w x cx->xS false x l=some v->
 ∃c,(cl.foldlM Builtin.min2 cx).run E.P w= .ok c w/\Rel K T w v c
 | [],[],x,v,cx,_,_,hx,hv=>by simp only[xS,iE] at hv;subst hv;exact⟨cx,rfl,hx⟩|y::l,cy::cl,x,v,cx,hl,hr,hx,hv=>by
  cases x<;>cases y<;>simp only[xS,reduceCtorEq] at hv;rename_i k a k' b;split at hv
  ·rename_i hk
   subst hk;have h0:=hr 0 aD;simp at h0;cases hx;cases h0;obtain⟨c,h1,h2⟩:=aeQ l cl _ v (.int k (if b<a then b else a)) xI (fun i hi=>by have:=hr (i+1) eY;simpa using this) (.int k _) hv;exact⟨c,by simpa [Builtin.min2] using h1,h2⟩
  ·simp at hv
 | [],_::_,_,_,_,h,_,_,_=>uH|_::_,[],_,_,_,h,_,_,_=>uH
theorem aeR:∀(l:List V)(cl:List Value)(x v:V)(cx:Value),l.length=cl.length->(∀i,i<l.length->Rel K T w (l.getD i aL) (cl.getD i undef))->Rel K T w x cx->xS true x l=some v->
 ∃c,(cl.foldlM Builtin.max2 cx).run E.P w= .ok c w/\Rel K T w v c
 | [],[],x,v,cx,_,_,hx,hv=>by simp only[xS,iE] at hv;subst hv;exact⟨cx,rfl,hx⟩|y::l,cy::cl,x,v,cx,hl,hr,hx,hv=>by
  cases x<;>cases y<;>simp only[xS,reduceCtorEq] at hv;rename_i k a k' b;split at hv
  ·rename_i hk
   subst hk;have h0:=hr 0 aD;simp at h0;cases hx;cases h0;obtain⟨c,h1,h2⟩:=aeR l cl _ v (.int k (if b>a then b else a)) xI (fun i hi=>by have:=hr (i+1) eY;simpa using this) (.int k _) hv;exact⟨c,by simpa [Builtin.max2] using h1,h2⟩
  ·simp at hv
 | [],_::_,_,_,_,h,_,_,_=>uH|_::_,[],_,_,_,h,_,_,_=>uH
end
end aR
end
