import Derived.Deep.Upon
import Derived.Test.YtgdialomgeijcaaGreatF3701
set_option linter.all false
section
namespace Aq
open Go Go.RowKit
section
variable {E:Env} {B0:Nat} {σ:Sig} {K:Con} {w:World} {new:Nat->Prop} {T:Nat->Nat}
def Src (P:Program) (w:World) (sz n:Nat) (cx:Value) (cells:List Value):Prop:=
 cells.length=n*sz/\∀w',w'.heap=w.heap->(Builtin.firstCells sz n cx).run P w'= .ok cells.toArray w'
def cO (K:Con) (T:Nat->Nat) (w:World) (sz:Nat) (l:List V) (cells:List Value):Prop:=
 ∀i,i<l.length->(l.getD i undefV).cells.length=sz/\∀j,j<sz->Rel K T w ((l.getD i undefV).cells.getD j undefV) (cells.getD (i*sz+j) undef)
theorem cO.ext {K' T' w'} {sz:Nat} {l:List V} {cells:List Value} (h:cO K T w sz l cells) (e:Ext K T w K' T' w'):cO K' T' w' sz l cells:=
 fun i hi=>⟨(h i hi).1,fun j hj=>((h i hi).2 j hj).ext e⟩
theorem mul_lt {i j n sz:Nat} (hi:i<n) (hj:j<sz):i*sz+j<n*sz:=by
 have:=R8 sz (Nat.succ_le_of_lt hi)
 rw[Sv] at this;omega
theorem Bh {f:Nat->Nat->Value} {n sz i j:Nat} (hi:i<n) (hj:j<sz):
 ((List.range (n*sz)).map fun q=>f (q/sz) (q% sz)).getD (i*sz+j) undef=f i j:=by
 have hlt:=mul_lt hi hj
 have h1:(i*sz+j)/sz=i:=by
  rw[SL,Nat.mul_add_div (by omega),Nat.div_eq_of_lt hj,Nat.add_zero]
 have h2:(i*sz+j)% sz=j:=by
  rw[SL,Nat.mul_add_mod,Nat.mod_eq_of_lt hj]
 simp[List.getD,hlt,h1,h2]
theorem p8 {P:Program} (w:World) (sz:Nat) (a:Option Addr):(Builtin.firstCells sz 0 (.slice a 0 0)).run P w= .ok #[] w:=by
 cases a with
 |none=>simp[Builtin.firstCells]
 |some a=>simpa using run_firstCells_some (P:=P) w sz 0 a 0 0 [] (by simp) (fun j v hj=>by simp at hj)
theorem IC {c:Cap} {l:List V} {cx:Value} {sz:Nat} (h:Rel K T w (.lst c l) cx) (hs:fI sz l=true):∃cells,Src E.P w sz l.length cx cells/\cO K T w sz l cells:=by
 cases h with
 |aV _ a ha hc=>exact⟨[],⟨by simp,fun w' _=>p8 w' sz a⟩,fun i hi=>absurd hi (RI i)⟩
 |lst _ _ b o n cap val hle hn hcell hrel hc=>
  by_cases h0:l=[]
  ·subst h0
   refine⟨[],⟨by simp,fun w' hw=>?_⟩,fun i hi=>absurd hi (RI i)⟩
   have:=run_firstCells_some (P:=E.P) w' sz 0 (at_ b o) 0 cap [] (by simp) (fun j v hj=>by simp at hj)
   simpa using this
  ·have hpos:0<l.length:=S9.2 h0
   have IE:n=sz:=vT hs hn hpos
   subst IE
   refine⟨(List.range (l.length*n)).map fun q=>val (q/n) (q% n),⟨by simp,fun w' hw=>?_⟩,fun i hi=>⟨hn i hi,fun j hj=>?_⟩⟩
   ·refine run_firstCells_some (P:=E.P) w' n l.length (at_ b o) l.length cap _ (by simp) (fun j v hj=>?_)
    have hjl:j<l.length*n:=by
     have:=(SH.1 hj).1
     simpa using this
    have hn0:0<n:=by
     rcases Nat.eq_zero_or_pos n with h|h
     ·subst h;simp at hjl
     ·exact h
    simp[hjl] at hj
    subst hj
    rw[addr_add]
    have:=(hcell (j/n) (j% n) (Nat.div_lt_of_lt_mul (by rw[SL];exact hjl)) (Nat.mod_lt _ hn0)).1
    rw[cell_of_heap (w:=w) (by rw[hw])]
    rwa[Sy,SL,Nat.div_add_mod] at this
   ·rw[Bh hi hj];exact hrel i j hi hj
theorem Bj {s:List UInt8} {cx:Value} {e:TypeId} (h:Rel K T w (.str s) cx):∃cells,Src E.P w 1 (s.map eU).length cx cells/\cO K T w 1 (s.map eU) cells:=by
 let _:=e
 cases h with|str _ b hb=>
 have hl:s.length=b.size:=by rw[<-hb];simp
 refine⟨(b.data.map fun x=>Value.int .u8 x.toNat).toList,⟨by simp[hl],fun w' _=>?_⟩,fun i hi=>?_⟩
 ·simp only[Builtin.firstCells,Sem.run_pure]
  congr 1
  have:(b.extract 0 (s.map eU).length)=b:=by
   rw[RN,hl];simp
  rw[this]
 ·have hi':i<s.length:=by simpa using hi
  have hg:(s.map eU).getD i undefV=eU s[i]:=by simp[List.getD,hi']
  rw[hg]
  refine⟨rfl,fun j hj=>?_⟩
  obtain rfl:j=0:=by omega
  have hib:i<b.size:=by omega
  have hv:((b.data.map fun x=>Value.int .u8 x.toNat).toList).getD (i*1+0) undef= .int .u8 s[i].toNat:=by
   have e1:s[i]=b.data[i]'(by simpa using hib):=by
    subst hb;simp
   simp[List.getD,hib,e1]
  rw[hv]
  exact .int _ _
theorem IG (h:ay E B0 σ K w) {loc:Loc} {s off len cap sz:Nat} {ag jX:Bool} {cs:List V} {cx:Value} (hx:Rel K σ.top w (.vw loc s off len cap sz jX) cx) (hcs:σ.cellsAt loc s=some cs)
 (hle:off+len*sz<=cs.length) (hag:(ag||sz==1)=true) (hone:oneCells cs=true\/ag=true):
 ∃cells,Src E.P w sz ((chunks ag sz len (cs.drop off)).map er).length cx cells/\cO K σ.top w sz ((chunks ag sz len (cs.drop off)).map er) cells:=by
 obtain⟨ho,hA,hks⟩:=h.iQ hcs
 obtain⟨_,bY,_⟩:=h.obj _ _ _ ho
 have hlen:((chunks ag sz len (cs.drop off)).map er).length=len:=by rw[RN,iq]
 rw[hlen]
 cases hx with
 |dM=>exact⟨[],⟨by simp,fun w' _=>by simp[Builtin.firstCells]⟩,fun i hi=>by rw[hlen] at hi;omega⟩
 |vw _ _ _ _ _ _ _ aM hA' hcc hlc hsz=>
  by_cases h0:len*sz=0
  ·refine⟨[],⟨by simp[h0],fun w' _=>?_⟩,fun i hi=>?_⟩
   ·have:=run_firstCells_some (P:=E.P) w' sz len (at_ (K.blk s) off) len aM [] (by simp[h0]) (fun j v hj=>by simp at hj)
    simpa using this
   ·rw[hlen] at hi
    have hsz0:sz=0:=by
     rcases Nat.mul_eq_zero.1 h0 with h|h
     ·omega
     ·exact h
    subst hsz0
    have hag':ag=true:=by simpa using hag
    subst hag'
    refine⟨?_,fun j hj=>absurd hj (RI j)⟩
    have hi':i< (chunks true 0 len (cs.drop off)).length:=by rw[iq];exact hi
    have:((chunks true 0 len (cs.drop off)).map er).getD i undefV=er ((chunks true 0 len (cs.drop off)).getD i undefV):=by simp[List.getD,hi']
    rw[this,sM,vU _ _ _ _ _ hi]
    simp[V.cells]
  ·obtain⟨_,vals,t,g1,g2,g3,g4⟩:=bY.2 (by rintro rfl;simp at hle;omega)
   refine⟨(List.range (len*sz)).map fun q=>vals.getD (off+q) undef,⟨by simp,fun w' hw=>?_⟩,fun i hi=>?_⟩
   ·refine run_firstCells_some (P:=E.P) w' sz len (at_ (K.blk s) off) len aM _ (by simp) (fun j v hj=>?_)
    have hjl:j<len*sz:=by
     have:=(SH.1 hj).1
     simpa using this
    simp only[List.getElem?_map,List.getElem?_range hjl,Option.map_some,iE] at hj
    subst hj
    rw[addr_add,cell_of_heap (w:=w) (by rw[hw])]
    simp[World.cell?,g1,show off+j<vals.size by omega]
   ·rw[hlen] at hi
    have hi':i< (chunks ag sz len (cs.drop off)).length:=by rw[iq];exact hi
    have hge:((chunks ag sz len (cs.drop off)).map er).getD i undefV=er ((chunks ag sz len (cs.drop off)).getD i undefV):=by simp[List.getD,hi']
    rw[hge,sM]
    have hcc:=vV (cs:=cs.drop off) ag (n:=sz) (k:=len) (fun hf=>by subst hf;simpa using hag) (by simp;omega) (fun hf=>by
     rcases hone with h1|h1
     ·simp only[oneCells,RZ] at h1⊢
      exact fun x hx=>h1 x (List.mem_of_mem_drop hx)
     ·subst h1;cases hf) hi
    have hlt:i*sz+sz<=len*sz:=by
     have:=R8 sz (Nat.succ_le_of_lt hi)
     rwa[Sv] at this
    refine⟨by rw[hcc];simp;omega,fun j hj=>?_⟩
    refine wo (by rw[hcc];simp;omega) ?_
    rw[hcc,fM _ hj,gL,gL]
    have hq:i*sz+j<len*sz:=by omega
    have:((List.range (len*sz)).map fun q=>vals.getD (off+q) undef).getD (i*sz+j) undef=vals.getD (off+(i*sz+j)) undef:=by
     simp[List.getD,hq]
    rw[this]
    exact g4 _ (by omega)
structure jF (P:Program) (w:World) (sz n:Nat) (tx:TypeId) (z cx:Value) (news:List Value):Prop where
 len:news.length=n*sz
 one:∀u∈news,u.oneCell'=true
 kind:(((∃e',P.underlying tx=some (.slice e'))\/P.underlying tx=some .string)/\(∀w',(Builtin.lenOf cx).run P w'= .ok n w')/\∀w',w'.heap=w.heap->(Builtin.firstCells sz n cx).run P w'= .ok news.toArray w')\/
  ((∃k k',P.underlying tx=some (.int k)/\cx= .int k' n)/\news=(Builtin.zeroCells z.cells n).toList/\z.cells.size=sz)
theorem Bl (z:Array Value) {n:Nat} (h:n*z.size=0):Builtin.zeroCells z n= #[]:=by
 simp[Builtin.zeroCells,h,Array.range_zero']
theorem Bn {n:Nat} (h:n<=2^47):IntKind.i64.wrap (n:Int)=n:=by
 rw[IntKind.wrap_i64];omega
theorem run_append_room' {P:Program} {w w':World} {t tx ty e:TypeId} {i:TypeInfo} {z:Value} {n sLen sCap:Nat} {cx:Value} {news:List Value} {base:Option Addr} (ht:P.underlying t=some (.slice e)) (hi:P.info? e=some i) (hz:i.zero=some z)
 (hs:jF P w i.size n tx z cx news) (hn:n<=2^47) (hb:n*i.bytes<=2^47) (hroom:sLen+n<=sCap)
 (h1:∀a,base=some a->(storeCells (a.add (sLen*i.size)) news).run P w= .ok () w') (h2:base=none->w'=w):
 (Builtin.append_ #[t,tx] ty #[.slice base sLen sCap,cx]).run P w= .ok (.slice base (sLen+n) sCap) w':=by
 rcases hs.kind with ⟨hk,hl,hc⟩| ⟨⟨k,k',hk,rfl⟩,hc,hzs⟩
 ·have hc':=hc w rfl
  cases base with
  |none=>
   rw[h2 rfl]
   rcases hk with ⟨e',hk⟩|hk<;>simp[Builtin.append_,run_underlying ht,run_underlying hk,Go.sizeOf,typeInfo,hi,hl,hroom,hc']
  |some a=>
   have hst:=h1 a rfl
   rcases hk with ⟨e',hk⟩|hk<;>simp[Builtin.append_,run_underlying ht,run_underlying hk,Go.sizeOf,typeInfo,hi,hl,hroom,hc',hst]
 ·have hw:=Bn hn
  have hb':¬(281474976710656< (n:Int)*(i.bytes:Int)):=by have:=Int.ofNat_le.2 hb;simp at this;omega
  have hneg:¬((n:Int)<0):=by omega
  by_cases h0:n*i.size=0
  ·have hnews:news=[]:=by rw[hc,Bl _ (by rw[hzs];exact h0)]
   subst hnews
   cases base with
   |none=>
    rw[h2 rfl]
    simp[Builtin.append_,run_underlying ht,run_underlying hk,Go.sizeOf,typeInfo,hi,hroom,asInt,asIntOf,hw,hb',hneg,h0]
   |some a=>
    have hst:=h1 a rfl
    simp[Builtin.append_,run_underlying ht,run_underlying hk,Go.sizeOf,typeInfo,hi,hroom,asInt,asIntOf,hw,hb',hneg,h0,hst]
  ·cases base with
   |none=>
    rw[h2 rfl]
    simp[Builtin.append_,run_underlying ht,run_underlying hk,Go.sizeOf,typeInfo,zeroValue,hi,hz,hroom,asInt,asIntOf,hw,hb',hneg]
   |some a=>
    have hst:=h1 a rfl
    rw[hc] at hst
    simp[Builtin.append_,run_underlying ht,run_underlying hk,Go.sizeOf,typeInfo,zeroValue,hi,hz,hroom,asInt,asIntOf,hw,hb',hneg,h0,hst]
theorem run_append_grow' {P:Program} {w:World} {t tx ty e:TypeId} {i:TypeInfo} {z:Value} {n sLen sCap:Nat} {cx:Value} {olds news:List Value} {base:Option Addr} (ht:P.underlying t=some (.slice e)) (hi:P.info? e=some i) (hz:i.zero=some z)
 (hs:jF P w i.size n tx z cx news) (hold:∀w',w'.heap=w.heap->(Builtin.firstCells i.size sLen (.slice base sLen sCap)).run P w'= .ok olds.toArray w') (hn:sLen+n<=2^47) (hb:(sLen+n)*i.bytes<=2^47) (hroom:sCap<sLen+n):
 (Builtin.append_ #[t,tx] ty #[.slice base sLen sCap,cx]).run P w= .ok (.slice (some ⟨w.heap.size,0,none⟩) (sLen+n) (grownCap w (sLen+n) sCap e))
   (w.drew.alloc (.cells ((olds++news).toArray++Builtin.zeroCells z.cells (grownCap w (sLen+n) sCap e-(sLen+n))) e)):=by
 have hnr:¬(sLen+n<=sCap):=by omega
 have h63:¬(9223372036854775807< ((sLen:Int)+(n:Int))):=by omega
 have h48:¬(281474976710656<Builtin.nextslicecap (sLen+n) sCap*i.bytes):=by have:=growslice_fits (bytes:=i.bytes) hroom (by omega);omega
 have hold':=hold w.drew rfl
 have Rf:(olds++news).toArray=olds.toArray++news.toArray:=by simp
 rcases hs.kind with ⟨hk,hl,hc⟩| ⟨⟨k,k',hk,rfl⟩,hc,hzs⟩
 ·have hc':=hc w.drew rfl
  rcases hk with ⟨e',hk⟩|hk<;>
   (simp[Builtin.append_,run_underlying ht,run_underlying hk,Go.sizeOf,typeInfo,zeroValue,hi,hz,hl,hnr,h63,h48,Question.forced,hc',hold',newRow,grownCap]
    congr 2
    apply Array.ext'
    simp[Si])
 ·have hw:=Bn (n:=n) (by omega)
  have hnb:n*i.bytes<=2^47:=RG (R8 _ (by omega)) hb
  have hb':¬(281474976710656< (n:Int)*(i.bytes:Int)):=by have:=Int.ofNat_le.2 hnb;simp at this;omega
  have hneg:¬((n:Int)<0):=by omega
  by_cases h0:n*i.size=0
  ·have hnews:news=[]:=by rw[hc,Bl _ (by rw[hzs];exact h0)]
   subst hnews
   simp[Builtin.append_,run_underlying ht,run_underlying hk,Go.sizeOf,typeInfo,zeroValue,hi,hz,hnr,h63,h48,Question.forced,asInt,asIntOf,hw,hb',hneg,h0,hold',newRow,grownCap]
  ·subst hc
   simp[Builtin.append_,run_underlying ht,run_underlying hk,Go.sizeOf,typeInfo,zeroValue,hi,hz,hnr,h63,h48,Question.forced,asInt,asIntOf,hw,hb',hneg,h0,hold',newRow,grownCap]
   congr 2
   apply Array.ext'
   simp[Si]
end
section
variable {E:Env} {B0:Nat} {σ:Sig} {K:Con} {w:World} {new:Nat->Prop} {T:Nat->Nat}
theorem Step.imp {new new' σ' K' w'} (h:Step E B0 new σ K w σ' K' w') (hn:∀s,new s->K.A s\/new' s):Step E B0 new' σ K w σ' K' w':=
 ⟨h.ok,h.ext,h.below,h.D,fun s hs=>(h.A s hs).elim .inl (hn s),h.nI,h.gZ⟩
theorem Bo {sz:Nat} {l ys:List V} {olds news:List Value} (h:cO K T w sz l olds) (g:cO K T w sz ys news) (hl:olds.length=l.length*sz):cO K T w sz (l++ys) (olds++news):=by
 intro i hi
 by_cases h1:i<l.length
 ·rw[fO h1]
  refine⟨(h i h1).1,fun j hj=>?_⟩
  have:=mul_lt h1 hj
  rw[fO (by omega)]
  exact(h i h1).2 j hj
 ·have h1':l.length<=i:=Nat.not_lt.1 h1
  have h2:i-l.length<ys.length:=by simp at hi;omega
  rw[fP h1']
  refine⟨(g _ h2).1,fun j hj=>?_⟩
  have hm:i*sz=(i-l.length)*sz+l.length*sz:=by rw[<-Sq];congr 1;omega
  rw[fP (by omega),show i*sz+j-olds.length=(i-l.length)*sz+j by omega]
  exact(g _ h2).2 j hj
theorem sN {sz:Nat} {ys:List V} {news:List Value} (h:cO K T w sz ys news) (hl:news.length=ys.length*sz) (hone:ys.all (fun v=>oneCells v.cells)=true):∀u∈news,u.oneCell'=true:=by
 intro u hu
 obtain⟨q,hq,rfl⟩:=TB.1 hu
 have hsz:0<sz:=by
  rcases Nat.eq_zero_or_pos sz with h0|h0
  ·subst h0;omega
  ·exact h0
 have hi:q/sz<ys.length:=Nat.div_lt_of_lt_mul (by rw[SL];omega)
 have hj:=Nat.mod_lt q hsz
 obtain⟨h1,h2⟩:=h _ hi
 have hr:=h2 _ hj
 rw[SL,Nat.div_add_mod,bX hq] at hr
 simp only[RZ,oneCells] at hone
 have h3:=hone _ (SI hi)
 rw[bX hi] at h1 hr
 have h4:=h3 _ (SI (show q% sz<_ by omega))
 rw[bX (by omega)] at hr
 simpa using (AB hr h4).1
theorem II (h:ay E B0 σ K w) {ag:Bool} {sz n:Nat} {tx e:TypeId} {z:V} {y:V} {cy cz:Value} {ys:List V} {zeros:Bool} (hy:Rel K σ.top w y cy) (hz:Rel K σ.top w z cz) (hraw:notRaw z=true) (hzl:z.cells.length=sz) (hag:(ag||sz==1)=true)
 (hk:zeros=true->∃k,E.P.underlying tx=some (.int k)) (hk':zeros=false->(∃e',E.P.underlying tx=some (.slice e'))\/E.P.underlying tx=some .string) (hzi:zeros=jV y)
 (hv:dQ σ ag sz z y=some ys) (hone:ys.all (fun v=>oneCells v.cells)=true) (hn:n=ys.length):∃news,jF E.P w sz n tx cz cy news/\cO K σ.top w sz ys news:=by
 subst hn
 let _:=e
 have fin:∀cells,Src E.P w sz ys.length cy cells->(∀w',(Builtin.lenOf cy).run E.P w'= .ok ys.length w')->zeros=false->cO K σ.top w sz ys cells->∃news,jF E.P w sz ys.length tx cz cy news/\cO K σ.top w sz ys news:=
  fun cells hs hl IJ hr=>⟨cells,⟨hs.1,sN hr hs.1 hone,.inl ⟨hk' IJ,hl,hs.2⟩⟩,hr⟩
 cases y with
 |int k m=>
  simp only[dQ] at hv
  split at hv
  ·rename_i hm
   simp only[iE] at hv;subst hv
   cases hy
   obtain⟨k',hk0⟩:=hk hzi
   have hr:=sK hz hraw hzl m.toNat
   have hcs:cz.cells.size=sz:=by rw[<-(jW hz hraw).1,hzl]
   have hzc:Builtin.zeroCells cz.cells m.toNat=(Array.range (m.toNat*sz)).map fun i=>cz.cells[i% cz.cells.size]! :=by unfold Builtin.zeroCells;rw[hcs]
   have hlen:(List.replicate m.toNat z).length=m.toNat:=List.length_replicate
   have hrc:cO K σ.top w sz (List.replicate m.toNat z) (Builtin.zeroCells cz.cells m.toNat).toList:=by
    intro i hi
    rw[hlen] at hi
    have hg:(List.replicate m.toNat z).getD i undefV=z:=by simp[List.getD,hi]
    rw[hg]
    refine⟨hzl,fun j hj=>?_⟩
    have hq:=mul_lt hi hj
    have:=hr.2 (i*sz+j) (by simp[hzl];exact hq)
    have hm:(i*sz+j)% sz=j:=by rw[SL,Nat.mul_add_mod,Nat.mod_eq_of_lt hj]
    rw[sJ z.cells sz hzl (by omega) _ _ hq,hm] at this
    rw[hzc,nU]
    exact this
   have hnl:(Builtin.zeroCells cz.cells m.toNat).toList.length=m.toNat*sz:=by rw[hzc];simp
   refine⟨_,⟨by rw[hlen];exact hnl,sN hrc (by rw[hlen];exact hnl) hone,.inr ⟨⟨k',k,hk0,?_⟩,by rw[hlen],hcs⟩⟩,hrc⟩
   rw[hlen,Int.toNat_of_nonneg hm.1]
  ·simp at hv
 |lst c l=>
  simp only[dQ] at hv
  split at hv
  ·rename_i hs
   simp only[iE] at hv;subst hv
   obtain⟨cells,h1,h2⟩:=IC (E:=E) hy hs
   refine fin cells h1 (fun w'=>?_) hzi h2
   cases hy<;>rfl
  ·simp at hv
 |str s=>
  simp only[dQ] at hv
  split at hv
  ·rename_i hs
   simp only[iE] at hv;subst hv;subst hs
   obtain⟨cells,h1,h2⟩:=Bj (E:=E) (e:=e) hy
   refine fin cells h1 (fun w'=>?_) hzi h2
   cases hy with|str _ b hb=>
   subst hb
   simp[Builtin.lenOf]
  ·simp at hv
 |vw loc s off len cap au jX=>
  simp only[dQ] at hv
  split at hv
  ·simp at hv
  ·rename_i he
   have he:au=sz:=by simpa using he
   subst he
   simp only[iP] at hv
   obtain⟨cs,hcs,hv⟩:=hv
   split at hv
   ·rename_i hc
    simp only[iE] at hv;subst hv
    obtain⟨cells,h1,h2⟩:=IG h hy hcs hc.1 hag hc.2
    refine fin cells h1 (fun w'=>?_) hzi h2
    rw[RN,iq]
    cases hy<;>rfl
   ·simp at hv
 |_=>simp[dQ] at hv
theorem Step.Bp {E B0 σ K w} (h:ay E B0 σ K w) (s T' b lo:Nat) (hs:¬K.A s):
 Step E B0 (· =s) σ K w (σ.aL s T') {K with A:=fun x=>K.A x\/x=s,ob:=upd K.ob s b,lo:=upd K.lo s lo,hi:=upd K.hi s lo} w:=by
 have hne:∀x,K.A x->x≠s:=fun x hx e=>hs (e▸hx)
 have e:Ext K σ.top w {K with A:=fun x=>K.A x\/x=s,ob:=upd K.ob s b,lo:=upd K.lo s lo,hi:=upd K.hi s lo} (σ.aL s T').top w:=
  ⟨fun _ h=>⟨.inl h,rfl,rfl,rfl⟩,fun x hx=>.inl ⟨upd_ne _ _ (hne x hx),upd_ne _ _ (hne x hx),upd_ne _ _ (hne x hx),upd_ne _ _ (hne x hx)⟩,fun b i hi=>⟨hi,rfl⟩,fun b hb=>⟨hb,rfl⟩⟩
 refine⟨?_,e,.refl _ _,fun b hb=>hb,fun _ h=>h,fun b o hi=>.inl hi,fun _ h=>.inl h⟩
 refine⟨fun loc x ob hx=>?_,fun x hx hlt=>?_,h.I,h.IM,fun l r hl=>?_,fun g cs hg=>(h.glob g cs hg).ext e,h.rb,h.D⟩
 ·obtain⟨a1,a2,a3⟩:=h.obj loc x ob hx
  exact⟨.inl a1,a2.ext e a1 (fun _=>rfl),a3⟩
 ·by_cases hxs:x=s
  ·subst hxs;simp only[upd_same] at hlt;omega
  ·simp only[upd_ne _ _ hxs] at hlt
   have:=h.own x (hx.resolve_right hxs) hlt
   exact⟨by simpa only[upd_ne _ _ hxs] using this.1,by simpa only[upd_ne _ _ hxs] using this.2.1,
    fun o p q=>by simpa only[upd_ne _ _ hxs] using this.2.2 o (by simpa only[upd_ne _ _ hxs] using p) (by simpa only[upd_ne _ _ hxs] using q)⟩
 ·obtain⟨a1,a2⟩:=h.loop l r hl
  exact⟨.inl a1,a2.ext e a1 rfl rfl⟩
theorem ay.drew (h:ay E B0 σ K w):ay E B0 σ K w.drew:=h.same rfl
theorem Step.draw (h:ay E B0 σ K w):Step E B0 new σ K w σ K w.drew:=Step.same h rfl rfl rfl rfl
theorem Bq {olds news:List Value} {zs:Array Value} {q:Nat} (hq:q< (olds++news).length):((olds++news).toArray++zs).getD q undef=(olds++news).getD q undef:=by
 have:q< ((olds++news).toArray++zs).size:=by simp at hq⊢;omega
 have hl:q< (olds++news).toArray.size:=by simpa using hq
 simp only[Array.getD,this,dif_pos]
 show ((olds++news).toArray++zs)[q]=_
 rw[Array.getElem_append_left hl,bX hq]
 simp
theorem sO (h:ay E B0 σ K w) (hB:B0<=w.heap.size) {t tx ty e:TypeId} {i:TypeInfo} {z:Value} {n sLen sCap s:Nat} {cx:Value} {olds news:List Value} {base:Option Addr} {l ys:List V} (ht:E.P.underlying t=some (.slice e)) (hi:E.P.info? e=some i) (hz:i.zero=some z)
 (hzs:z.cells.size=i.size) (hl:sLen=l.length) (hn:n=ys.length)
 (hs:jF E.P w i.size n tx z cx news) (hold:∀w',w'.heap=w.heap->(Builtin.firstCells i.size sLen (.slice base sLen sCap)).run E.P w'= .ok olds.toArray w') (hol:olds.length=sLen*i.size) (h47:sLen+n<=2^47) (hb:(sLen+n)*i.bytes<=2^47) (hroom:sCap<sLen+n)
 (rl:cO K σ.top w i.size l olds) (ry:cO K σ.top w i.size ys news) (hst:¬K.A s\/σ.top s<sLen+n):
 Done E B0 (· =s) σ K w (Builtin.append_ #[t,tx] ty #[.slice base sLen sCap,cx]) (.lst (.own i.size s) (l++ys)) (σ.aL s (sLen+n)):=by
 have hrun:=run_append_grow' (ty:=ty) ht hi hz hs hold h47 hb hroom
 have hge:=grownCap_ge w (sLen+n) sCap e
 generalize grownCap w (sLen+n) sCap e=nc at hrun hge
 have hlen:(olds++news).length=(sLen+n)*i.size:=by rw[RY,hol,hs.len,Sq]
 have hvs:((olds++news).toArray++Builtin.zeroCells z.cells (nc-(sLen+n))).size=nc*i.size:=by
  rw[Array.size_append]
  have:(olds++news).toArray.size=(sLen+n)*i.size:=by simpa using hlen
  rw[this]
  simp only[Builtin.zeroCells,Array.size_map,Array.size_range,hzs]
  rw[<-Sq];congr 1;omega
 have hlo:(sLen+n)*i.size<=((olds++news).toArray++Builtin.zeroCells z.cells (nc-(sLen+n))).size:=by rw[hvs];exact R8 _ hge
 have hstep:=(Step.draw (new:=(· =s)) h).trans (Step.Aw (w:=w.drew) h.drew hB s (sLen+n) hst ((olds++news).toArray++Builtin.zeroCells z.cells (nc-(sLen+n))) e ((sLen+n)*i.size) hlo)
 have hll:(l++ys).length=sLen+n:=by rw[RY,hl,hn]
 have rc:=(Bo rl ry (by rw[hol,hl])).ext hstep.ext
 refine⟨_,_,_,hrun,?_,hstep⟩
 have key:Rel (K.kS s w.drew.heap.size ((sLen+n)*i.size) ((olds++news).toArray++Builtin.zeroCells z.cells (nc-(sLen+n))).size) (σ.aL s (sLen+n)).top
  (w.drew.alloc (.cells ((olds++news).toArray++Builtin.zeroCells z.cells (nc-(sLen+n))) e)) (.lst (.own i.size s) (l++ys)) (.slice (some (at_ w.heap.size 0)) (l++ys).length nc):=by
  refine .lst _ _ w.heap.size 0 i.size nc (fun p q=>(olds++news).getD (p*i.size+q) undef) (by omega) (fun p hp=>(rc p hp).1) (fun p q hp hq=>?_) (fun p q hp hq=>(rc p hp).2 q hq) ?_
  ·have hpq:=mul_lt (hll▸hp) hq
   refine⟨?_,.inr ⟨rfl,by omega⟩⟩
   have:=pU (w:=w.drew) (vals:=(olds++news).toArray++Builtin.zeroCells z.cells (nc-(sLen+n))) (t:=e) (fz:=(0,0)) (i:=p*i.size+q) (by omega)
   rw[Bq (by omega)] at this
   rw[Sr]
   exact this
  ·refine⟨rfl,.inr rfl,?_,fun _=>⟨?_,?_,?_⟩⟩
   ·show _<=upd σ.top s _ s
    rw[upd_same,hll];exact mF _
   ·show upd K.ob s _ s=_
    rw[upd_same];rfl
   ·show upd K.lo s _ s=_
    rw[upd_same,hll,Sr]
   ·show upd K.hi s _ s=_
    rw[upd_same,hvs,Sr]
 rw[hll] at key
 exact key
theorem IK (b o:Nat) (v:Value) (w:World):Only b w (w.setCell ⟨b,o,none⟩ v):=
 ⟨rfl,rfl,rfl,by simp[World.setCell],fun k hk _=>by simp[World.setCell,Array.getElem?_modify,Ne.symm hk]⟩
theorem Only.trans {b:Nat} {w w1 w2:World} (h:Only b w w1) (g:Only b w1 w2):Only b w w2:=
 ⟨g.os.trans h.os,g.tape.trans h.tape,g.output.trans h.output,RG h.size g.size,fun k hk hl=>(g.block k hk (RS hl h.size)).trans (h.block k hk hl)⟩
theorem Br (b:Nat):∀(vs:List Value) (o:Nat) (w:World),Only b w (w.setCells b o vs)
 | [],_,_=>⟨rfl,rfl,rfl,mF _,fun _ _ _=>rfl⟩
 |v::r,o,w=>(IK b o v w).trans (Br b r (o+1) _)
theorem IL (h:ay E B0 σ K w) (hB:B0<=w.heap.size) {t tx ty e:TypeId} {i:TypeInfo} {z:Value} {b o cap s:Nat} {cx:Value} {news:List Value} {l ys:List V} (ht:E.P.underlying t=some (.slice e)) (hi:E.P.info? e=some i) (hz:i.zero=some z)
 (hsz:0<i.size) (hys:ys≠[]) (hx:Rel K σ.top w (.lst (.own i.size s) l) (.slice (some (at_ b o)) l.length cap)) (hhead:fI i.size l=true)
 (hs:jF E.P w i.size ys.length tx z cx news) (h47:ys.length<=2^47) (hb:ys.length*i.bytes<=2^47) (hroom:l.length+ys.length<=cap)
 (ry:cO K σ.top w i.size ys news) (hT:σ.top s=l.length):
 Done E B0 new σ K w (Builtin.append_ #[t,tx] ty #[.slice (some (at_ b o)) l.length cap,cx]) (.lst (.own i.size s) (l++ys)) (σ.aL s (l.length+ys.length)):=by
 have hyl:0<ys.length:=S9.2 hys
 have hnl:0<news.length:=by rw[hs.len];exact Nat.mul_pos hyl hsz
 generalize hgl:l.length=ln at hx
 cases hx with
 |aV _ a ha hc=>omega
 |lst _ _ _ _ n _ val hle hn hcell hrel hc=>
 obtain⟨hc1,hA,_,hc2⟩:=hc
 obtain⟨c1,c2,c3⟩:=hc2 hT.symm
 subst hc1
 have hsum:(l.length+ys.length)*i.size=l.length*i.size+ys.length*i.size:=Sq _ _ _
 have Rh:=R8 i.size hroom
 have hlt:K.lo s<K.hi s:=by rw[c2,c3];have:=hs.len;omega
 obtain⟨o1,o2,o3⟩:=h.own s hA hlt
 have sP:∀j,j<news.length->(∃v,w.cell? (at_ b (o+l.length*i.size+j))=some v)/\w.frozen? (at_ b (o+l.length*i.size+j))=false:=by
  intro j hj
  have:=o3 (o+l.length*i.size+j) (by omega) (by have:=hs.len;omega)
  rw[c1] at this
  exact this.2
 have hst:=run_storeCells_cells (P:=E.P) b (o+l.length*i.size) news 0 w (fun j hj=>by
  obtain⟨v,hv⟩:=(sP j hj).1
  rw[Nat.add_zero,hv];rfl) (fun j hj=>by rw[Nat.add_zero];exact(sP j hj).2) hs.one
 simp only[Nat.add_zero] at hst
 have hrun:=run_append_room' (ty:=ty) (sLen:=l.length) (base:=some (at_ b o)) (w':=w.setCells b (o+l.length*i.size) news) ht hi hz hs h47 hb hroom (fun a ha=>by
  simp only[iE] at ha;subst ha
  rw[addr_add];exact hst) (fun hn=>by cases hn)
 have hstep:=Step.l9 (new:=new) h hB (s:=s) (n:=news.length) (T':=l.length+ys.length) (w':=w.setCells b (o+l.length*i.size) news) hA (by omega) hnl (by rw[c2,c3,hs.len];omega) (by rw[c1];exact Br b news _ w)
  (fun q h1 h2=>by
    rw[c1]
    have:=World.cell?_setCells_in b news (o+l.length*i.size) w (fun j hj=>by obtain⟨v,hv⟩:=(sP j hj).1;rw[hv];rfl) (q-(o+l.length*i.size)) (by omega)
    rw[show o+l.length*i.size+(q-(o+l.length*i.size))=q by omega] at this
    exact⟨_,this⟩)
  (fun q hq=>by
    rw[c1]
    exact World.cell?_setCells_out b news _ w _ (fun _ _=>by show q<_\/_<=q;omega))
  (fun q=>World.frozen?_setCells b news _ w _)
 refine⟨_,_,_,hrun,?_,hstep⟩
 have hll:(l++ys).length=l.length+ys.length:=RY
 have key:Rel (K.l9 s news.length) (σ.aL s (l.length+ys.length)).top (w.setCells b (o+l.length*i.size) news) (.lst (.own i.size s) (l++ys)) (.slice (some (at_ b o)) (l++ys).length cap):=by
  refine .lst _ _ b o i.size cap (fun p q=>if p<l.length then val p q else news.getD ((p-l.length)*i.size+q) undef) (by omega) (fun p hp=>?_) (fun p q hp hq=>?_) (fun p q hp hq=>?_) ?_
  ·by_cases h1:p<l.length
   ·rw[fO h1];exact hn p h1
   ·rw[fP (Nat.not_lt.1 h1)];exact(ry _ (by omega)).1
  ·by_cases h1:p<l.length
   ·obtain⟨g1,g2⟩:=hcell p q h1 hq
    obtain⟨e1,e2⟩:=hstep.ext.I _ _ g2
    simp only[h1,if_true]
    exact⟨e2.trans g1,e1⟩
   ·have h2:p-l.length<ys.length:=by omega
    have hpq:=mul_lt h2 hq
    have hm:p*i.size=(p-l.length)*i.size+l.length*i.size:=by rw[<-Sq];congr 1;omega
    simp only[h1,if_false]
    refine⟨?_,.inr ⟨c1.symm,by omega,by have:=hs.len;omega⟩⟩
    have hlt':(p-l.length)*i.size+q<news.length:=by rw[hs.len];exact hpq
    have:=World.cell?_setCells_in b news (o+l.length*i.size) w (fun j hj=>by obtain⟨v,hv⟩:=(sP j hj).1;rw[hv];rfl) ((p-l.length)*i.size+q) hlt'
    rw[bX hlt',<-this]
    congr 2;omega
  ·by_cases h1:p<l.length
   ·rw[fO h1]
    simp only[h1,if_true]
    exact(hrel p q h1 hq).ext hstep.ext
   ·rw[fP (Nat.not_lt.1 h1)]
    simp only[h1,if_false]
    exact((ry _ (by omega)).2 q hq).ext hstep.ext
  ·refine⟨rfl,hA,?_,fun _=>⟨c1,?_,?_⟩⟩
   ·show _<=upd σ.top s _ s
    rw[upd_same,hll];exact mF _
   ·show upd K.lo s _ s=_
    rw[upd_same,hll,c2,hs.len];omega
   ·exact c3
 rw[hll] at key
 exact key
end
section
variable {E:Env} {B0:Nat} {σ:Sig} {K:Con} {w:World} {new:Nat->Prop} {T:Nat->Nat}
theorem nW {c:Cap} {l:List V} {cx:Value} {sz:Nat} (hx:Rel K T w (.lst c l) cx) (hs:fI sz l=true) (hc:∀n s,c= .own n s->n=sz):
 (∃a,cx= .slice a 0 0/\(c= .nil->a=none)/\l=[]/\pO K T c)\/∃(b o cap:Nat) (val:Nat->Nat->Value),cx= .slice (some (at_ b o)) l.length cap/\l.length<=cap/\(∀i,i<l.length->(l.getD i undefV).cells.length=sz)/\
   (∀i j,i<l.length->j<sz->w.cell? (at_ b (o+i*sz+j))=some (val i j)/\K.I b (o+i*sz+j))/\
   (∀i j,i<l.length->j<sz->Rel K T w ((l.getD i undefV).cells.getD j undefV) (val i j))/\gK K T c sz b o l.length cap:=by
 cases hx with
 |aV _ a ha hcn=>exact .inl ⟨a,rfl,ha,rfl,hcn⟩
 |lst _ _ b o n cap val hle hn hcell hrel hcap=>
  right
  by_cases h0:l=[]
  ·subst h0
   refine⟨b,o,cap,val,rfl,hle,fun i hi=>absurd hi (RI i),fun i j hi=>absurd hi (RI i),fun i j hi=>absurd hi (RI i),?_⟩
   cases c with
   |own n' s=>
    have h1:=hc n' s rfl
    have h2:=hcap.1
    have:n=sz:=by omega
    rw[<-this];exact hcap
   |sh=>trivial
   |full=>exact hcap
   |nil=>exact hcap
  ·obtain rfl:=vT hs hn (S9.2 h0)
   exact⟨b,o,cap,val,rfl,hle,hn,hcell,hrel,hcap⟩
theorem Bt {P:Program} {e:TypeId} {sz bs:Nat} {z:V} (h1:szT P e=some sz) (h2:bytesT P e=some bs) (h3:zeroT P e=some z):∃i cz,P.info? e=some i/\i.size=sz/\i.bytes=bs/\i.zero=some cz/\ofValue cz=some z:=by
 unfold szT at h1;unfold bytesT at h2;unfold zeroT at h3
 simp only[RF,iP] at h1 h2 h3
 obtain⟨i,hi,e1⟩:=h1
 obtain⟨i',hi',e2⟩:=h2
 obtain⟨cz,⟨Ri,sQ,e3⟩,e4⟩:=h3
 rw[hi] at hi' sQ
 cases hi';cases sQ
 exact⟨i,cz,hi,e1,e2,e3,e4⟩
theorem nX {sz n cap:Nat} {b o:Nat} {val:Nat->Nat->Value} (hcell:∀i j,i<n->j<sz->w.cell? (at_ b (o+i*sz+j))=some (val i j)) (w':World) (hw:w'.heap=w.heap):
 (Builtin.firstCells sz n (.slice (some (at_ b o)) n cap)).run E.P w'= .ok ((List.range (n*sz)).map fun q=>val (q/sz) (q% sz)).toArray w':=by
 refine run_firstCells_some (P:=E.P) w' sz n (at_ b o) n cap _ (by simp) (fun j v hj=>?_)
 have hjl:j<n*sz:=by
  have:=(SH.1 hj).1
  simpa using this
 have hn0:0<sz:=by
  rcases Nat.eq_zero_or_pos sz with h|h
  ·subst h;simp at hjl
  ·exact h
 simp[hjl] at hj
 subst hj
 rw[addr_add]
 have:=hcell (j/sz) (j% sz) (Nat.div_lt_of_lt_mul (by rw[SL];exact hjl)) (Nat.mod_lt _ hn0)
 rw[cell_of_heap (w:=w) (by rw[hw])]
 rwa[Sy,SL,Nat.div_add_mod] at this
theorem sS {l:List V} {sz:Nat} {val:Nat->Nat->Value} (hn:∀i,i<l.length->(l.getD i undefV).cells.length=sz) (hrel:∀i j,i<l.length->j<sz->Rel K T w ((l.getD i undefV).cells.getD j undefV) (val i j)):
 cO K T w sz l ((List.range (l.length*sz)).map fun q=>val (q/sz) (q% sz)):=
 fun i hi=>⟨hn i hi,fun j hj=>by rw[Bh hi hj];exact hrel i j hi hj⟩
theorem kV {t tx ty e:TypeId} {i:TypeInfo} {z cx:Value} {news:List Value} {n sLen sCap:Nat} {base:Option Addr} (ht:E.P.underlying t=some (.slice e)) (hi:E.P.info? e=some i) (hz:i.zero=some z)
 (hs:jF E.P w i.size n tx z cx news) (hn:n=0) (hle:sLen<=sCap):(Builtin.append_ #[t,tx] ty #[.slice base sLen sCap,cx]).run E.P w= .ok (.slice base sLen sCap) w:=by
 subst hn
 have h0:news=[]:=SA (by rw[hs.len];simp)
 subst h0
 exact run_append_room' (w':=w) (base:=base) ht hi hz hs (by omega) (by simp) (by omega) (fun a _=>rfl) (fun _=>rfl)
theorem IQ (s n:Nat) (h:σ.top s=n):σ.aL s n=σ:=by
 unfold Sig.aL
 have:upd σ.top s n=σ.top:=by
  funext x
  unfold upd
  split
  ·rename_i hx;rw[hx,h]
  ·rfl
 rw[this]
theorem IU (h:ay E B0 σ K w) (hB:B0<=w.heap.size) {t tx ty e:TypeId} {i:TypeInfo} {z:Value} {st:Nat} {c:Cap} {l ys:List V} {cx cy:Value} {news:List Value} {v:V} {σ':Sig} (ht:E.P.underlying t=some (.slice e)) (hi:E.P.info? e=some i) (hz:i.zero=some z)
 (hzs:z.cells.size=i.size) (hsz:0<i.size) (hst:¬K.A st) (hx:Rel K σ.top w (.lst c l) cx) (hs:jF E.P w i.size ys.length tx z cy news) (ry:cO K σ.top w i.size ys news)
 (h47:l.length+ys.length<=2^47) (hb:(l.length+ys.length)*i.bytes<=2^47) (hhead:fI i.size l=true)
 (hv:(match c with
   |.own n s=>if n=i.size/\σ.top s=l.length then some (.lst (.own n s) (l++ys),σ.aL s (l.length+ys.length)) else none
   |.nil|.full=>some (.lst (.own i.size st) (l++ys),σ.aL st (l.length+ys.length))
   |.sh=>none)=some (v,σ')):
 Done E B0 (· =st) σ K w (Builtin.append_ #[t,tx] ty #[cx,cy]) v σ':=by
 have hb':ys.length*i.bytes<=2^47:=RG (R8 _ (Nat.le_add_left _ _)) hb
 have imp:∀{s:Nat} {m:Sem Value} {v:V} {σ':Sig},K.A s->Done E B0 (· =s) σ K w m v σ'->Done E B0 (· =st) σ K w m v σ':=by
  rintro s m v σ' hA ⟨a,b,c,d,e,f⟩
  exact⟨a,b,c,d,e,f.imp fun x hx=>.inl (hx▸hA)⟩
 have fresh:∀cx,Rel K σ.top w (.lst .full l) cx\/(∃a,cx= .slice a 0 0/\l=[])->Done E B0 (· =st) σ K w (Builtin.append_ #[t,tx] ty #[cx,cy]) (.lst (.own i.size st) (l++ys)) (σ.aL st (l.length+ys.length)):=by
  intro cx hx
  have hx':(∃a,cx= .slice a 0 0/\l=[])\/∃(b o:Nat) (val:Nat->Nat->Value),cx= .slice (some (at_ b o)) l.length l.length/\(∀p,p<l.length->(l.getD p undefV).cells.length=i.size)/\
   (∀p j,p<l.length->j<i.size->w.cell? (at_ b (o+p*i.size+j))=some (val p j)/\K.I b (o+p*i.size+j))/\
   (∀p j,p<l.length->j<i.size->Rel K σ.top w ((l.getD p undefV).cells.getD j undefV) (val p j)):=by
   rcases hx with hx|hx
   ·rcases nW hx hhead (fun n s hh=>by cases hh) with ⟨a,h1,_,h2,_⟩| ⟨b,o,cap,val,h1,h2,h3,h4,h5,h6⟩
    ·exact .inl ⟨a,h1,h2⟩
    ·have h6:cap=l.length:=h6
     subst h6
     exact .inr ⟨b,o,val,h1,h3,h4,h5⟩
   ·exact .inl hx
  rcases hx' with ⟨a,rfl,rfl⟩| ⟨b,o,val,rfl,h3,h4,h5⟩
  ·by_cases hys:ys=[]
   ·subst hys
    have hrun:=kV (ty:=ty) (base:=a) (sLen:=0) (sCap:=0) ht hi hz hs rfl (mF _)
    have hstep:=Step.Bp h st 0 0 0 hst
    refine⟨_,_,_,hrun,?_,hstep⟩
    exact .aV _ a (fun h=>by cases h) ⟨Or.inr rfl,fun _=>by simp only[upd_same]⟩
   ·have hl:0<ys.length:=S9.2 hys
    have:=sO (ty:=ty) (base:=a) (olds:=[]) (l:=[]) (sLen:=0) (sCap:=0) h hB ht hi hz hzs rfl rfl hs (fun w' _=>p8 w' i.size a) (by simp) (by simpa using h47) (by simpa using hb) (by omega) (fun p hp=>absurd hp (RI p)) ry (.inl hst)
    simpa using this
  ·by_cases hys:ys=[]
   ·subst hys
    have hrun:=kV (ty:=ty) (base:=some (at_ b o)) (sLen:=l.length) (sCap:=l.length) ht hi hz hs rfl (mF _)
    have hstep:=Step.Bp h st (l.length+0) b (o+l.length*i.size) hst
    refine⟨_,_,_,hrun,?_,hstep⟩
    rw[SB]
    refine .lst _ _ b o i.size l.length val (mF _) h3 (fun p j hp hj=>h4 p j hp hj) (fun p j hp hj=>(h5 p j hp hj).ext hstep.ext) ⟨rfl,.inr rfl,?_,fun _=>⟨?_,?_,?_⟩⟩
    ·show _<=upd σ.top st _ st
     rw[upd_same];exact mF _
    ·exact upd_same _ _ _
    ·exact upd_same _ _ _
    ·exact upd_same _ _ _
   ·have hl:0<ys.length:=S9.2 hys
    exact sO (ty:=ty) (base:=some (at_ b o)) h hB ht hi hz hzs rfl rfl hs (fun w' hw=>nX (fun p j hp hj=>(h4 p j hp hj).1) w' hw) (by simp) h47 hb (by omega) (sS h3 h5) ry (.inl hst)
 cases c with
 |sh=>simp at hv
 |nil=>
  simp only[iE,iR] at hv
  obtain⟨rfl,rfl⟩:=hv
  refine fresh cx (.inr ?_)
  cases hx with
  |aV _ a ha _=>exact⟨a,rfl,rfl⟩
  |lst _ _ _ _ _ _ _ _ _ _ _ hc=>exact hc.elim
 |full=>
  simp only[iE,iR] at hv
  obtain⟨rfl,rfl⟩:=hv
  exact fresh cx (.inl hx)
 |own n s=>
  simp only at hv
  split at hv
  ·rename_i hc
   obtain⟨rfl,hT⟩:=hc
   simp only[iE,iR] at hv
   obtain⟨rfl,rfl⟩:=hv
   by_cases hys:ys=[]
   ·subst hys
    have e1:σ.aL s (l.length+([]:List V).length)=σ:=IQ s _ hT
    rw[e1,SB]
    rcases nW hx hhead (fun n s hh=>by cases hh;rfl) with ⟨a,rfl,_,rfl,_⟩| ⟨b,o,cap,val,rfl,h2,_⟩
    ·exact⟨_,_,_,kV (ty:=ty) (base:=a) (sLen:=0) (sCap:=0) ht hi hz hs rfl (mF _),hx,.refl h⟩
    ·exact⟨_,_,_,kV (ty:=ty) (base:=some (at_ b o)) ht hi hz hs rfl h2,hx,.refl h⟩
   ·have hl:0<ys.length:=S9.2 hys
    rcases nW hx hhead (fun n s hh=>by cases hh;rfl) with ⟨a,rfl,_,rfl,hcn⟩| ⟨b,o,cap,val,rfl,h2,h3,h4,h5,h6⟩
    ·have:=sO (ty:=ty) (base:=a) (olds:=[]) (l:=[]) (sLen:=0) (sCap:=0) (s:=s) h hB ht hi hz hzs rfl rfl hs (fun w' _=>p8 w' i.size a) (by simp) (by simpa using h47) (by simpa using hb) (by omega) (fun p hp=>absurd hp (RI p)) ry (.inr (by simp at hT;omega))
     simpa using imp hcn.1 this
    ·by_cases hr:l.length+ys.length<=cap
     ·exact IL (ty:=ty) h hB ht hi hz hsz hys hx hhead hs (by omega) hb' hr ry hT
     ·exact imp h6.2.1 (sO (ty:=ty) (base:=some (at_ b o)) (s:=s) h hB ht hi hz hzs rfl rfl hs (fun w' hw=>nX (fun p j hp hj=>(h4 p j hp hj).1) w' hw) (by simp) h47 hb (by omega) (sS h3 h5) ry (.inr (by omega)))
  ·simp at hv
end
section
variable {E:Env} {B0:Nat} {σ:Sig} {K:Con} {w:World} {new:Nat->Prop} {T:Nat->Nat}
theorem Step.bR (h:ay E B0 σ K w) (loc:Loc):Step E B0 new σ K w (σ.bR loc) K w:=by
 refine⟨⟨fun loc' s ob hs=>?_,h.own,h.I,h.IM,h.loop,h.glob,h.rb,h.D⟩,.refl _ _ _,.refl _ _,fun _ h=>h,fun _ h=>.inl h,fun _ _ h=>.inl h,fun _ h=>.inl h⟩
 by_cases hl:loc'=loc
 ·subst hl;simp[Sig.bR,upd_same] at hs
 ·simp only[Sig.bR,upd_ne _ _ hl] at hs
  exact h.obj loc' s ob hs
theorem Step.IV (h:ay E B0 σ K w) (loc:Loc) {st:Nat} (hst:¬K.A st):
 Step E B0 (· =st) σ K w (σ.setObj loc st (.cells [])) {K with A:=fun x=>K.A x\/x=st,sz:=upd K.sz st 0,lo:=upd K.lo st 0,hi:=upd K.hi st 0} w:=by
 have hne:∀x,K.A x->x≠st:=fun x hx e=>hst (e▸hx)
 have e:Ext K σ.top w {K with A:=fun x=>K.A x\/x=st,sz:=upd K.sz st 0,lo:=upd K.lo st 0,hi:=upd K.hi st 0} σ.top w:=
  ⟨fun x hx=>⟨.inl hx,rfl,rfl,upd_ne _ _ (hne x hx)⟩,fun x hx=>.inl ⟨rfl,rfl,upd_ne _ _ (hne x hx),upd_ne _ _ (hne x hx)⟩,fun b i hi=>⟨hi,rfl⟩,fun b hb=>⟨hb,rfl⟩⟩
 refine⟨?_,e,.refl _ _,fun b hb=>hb,fun _ h=>h,fun b o hi=>.inl hi,fun _ h=>.inl h⟩
 refine⟨fun loc' x ob hx=>?_,fun x hx hlt=>?_,h.I,h.IM,fun l r hl=>?_,fun g cs hg=>(h.glob g cs hg).ext e,h.rb,h.D⟩
 ·by_cases hl:loc'=loc
  ·subst hl
   simp only[Sig.setObj,upd_same,iE,iR] at hx
   obtain⟨rfl,rfl⟩:=hx
   exact⟨.inr rfl,⟨fun _=>upd_same _ _ _,fun hn=>absurd rfl hn⟩,fun hr=>hr.elim⟩
  ·simp only[Sig.setObj,upd_ne _ _ hl] at hx
   obtain⟨a1,a2,a3⟩:=h.obj loc' x ob hx
   exact⟨.inl a1,a2.ext e a1 (fun _=>rfl),a3⟩
 ·by_cases hxs:x=st
  ·subst hxs;simp only[upd_same] at hlt;omega
  ·simp only[upd_ne _ _ hxs] at hlt
   have:=h.own x (hx.resolve_right hxs) hlt
   exact⟨this.1,this.2.1,fun o p q=>this.2.2 o (by simpa only[upd_ne _ _ hxs] using p) (by simpa only[upd_ne _ _ hxs] using q)⟩
 ·obtain⟨a1,a2⟩:=h.loop l r hl
  exact⟨.inl a1,a2.ext e a1 rfl rfl⟩
def iU (K:Con) (T:Nat->Nat) (w:World) (fl:List V) (cells:List Value):Prop:=fl.length=cells.length/\∀q,q<fl.length->Rel K T w (fl.getD q undefV) (cells.getD q undef)
theorem iU.ext {K' T' w'} {fl:List V} {cells:List Value} (h:iU K T w fl cells) (e:Ext K T w K' T' w'):iU K' T' w' fl cells:=⟨h.1,fun q hq=>(h.2 q hq).ext e⟩
theorem iU.append {a b:List V} {x y:List Value} (h:iU K T w a x) (g:iU K T w b y):iU K T w (a++b) (x++y):=by
 refine⟨by simp[h.1,g.1],fun q hq=>?_⟩
 by_cases h1:q<a.length
 ·rw[fO h1,fO (by have:=h.1;omega)];exact h.2 q h1
 ·rw[fP (by omega),fP (by have:=h.1;omega),<-h.1]
  exact g.2 _ (by simp at hq;omega)
theorem nY {sz:Nat}:∀{l:List V} {cells:List Value},cO K T w sz l cells->cells.length=l.length*sz->iU K T w (l.flatMap V.cells) cells
 | [],cells,_,hl=>by
   have:cells=[]:=SA (by simpa using hl)
   subst this
   exact⟨rfl,fun q hq=>absurd hq (RI q)⟩
 |v::l,cells,h,hl=>by
  have hs:(l.length+1)*sz=l.length*sz+sz:=Sv _ _
  rw[List.length_cons,hs] at hl
  obtain⟨h1,h2⟩:=h 0 (by simp)
  have h1:v.cells.length=sz:=h1
  have e:cells=cells.take sz++cells.drop sz:=(Tw _ _).symm
  rw[e,Sj]
  refine iU.append ⟨by simp[h1];omega,fun q hq=>?_⟩ (nY (sz:=sz) (fun i hi=>?_) (by simp;omega))
  ·have:=h2 q (by omega)
   rw[fM _ (by omega)]
   simpa using this
  ·obtain⟨g1,g2⟩:=h (i+1) (by simp;omega)
   refine⟨by simpa using g1,fun j hj=>?_⟩
   have:=g2 j hj
   rw[gL]
   have e2:sz+(i*sz+j)=(i+1)*sz+j:=by rw[Sv];omega
   rw[e2]
   simpa using this
theorem wu (h:ay E B0 σ K w) (hB:B0<=w.heap.size) {t tx ty e:TypeId} {i:TypeInfo} {z:Value} {n sLen sCap st:Nat} {loc:Loc} {ag:Bool} {cx:Value} {olds news:List Value} {base:Option Addr} {fl:List V} (ht:E.P.underlying t=some (.slice e)) (hi:E.P.info? e=some i) (hz:i.zero=some z)
 (hzs:z.cells.size=i.size) (hsz:0<i.size) (hs:jF E.P w i.size n tx z cx news) (hold:∀w',w'.heap=w.heap->(Builtin.firstCells i.size sLen (.slice base sLen sCap)).run E.P w'= .ok olds.toArray w') (hol:olds.length=sLen*i.size) (h47:sLen+n<=2^47) (hb:(sLen+n)*i.bytes<=2^47) (hroom:sCap<sLen+n)
 (rf:iU K σ.top w fl (olds++news)) (hst:¬K.A st):
 Done E B0 (· =st) σ K w (Builtin.append_ #[t,tx] ty #[.slice base sLen sCap,cx]) (.vw loc st 0 (sLen+n) (sLen+n) i.size ag) (σ.setObj loc st (.cells fl)):=by
 have hrun:=run_append_grow' (ty:=ty) ht hi hz hs hold h47 hb hroom
 have hge:=grownCap_ge w (sLen+n) sCap e
 generalize grownCap w (sLen+n) sCap e=nc at hrun hge
 have hlen:(olds++news).length=(sLen+n)*i.size:=by rw[RY,hol,hs.len,Sq]
 have hvs:((olds++news).toArray++Builtin.zeroCells z.cells (nc-(sLen+n))).size=nc*i.size:=by
  rw[Array.size_append]
  have:(olds++news).toArray.size=(sLen+n)*i.size:=by simpa using hlen
  rw[this]
  simp only[Builtin.zeroCells,Array.size_map,Array.size_range,hzs]
  rw[<-Sq];congr 1;omega
 have hfl:fl.length=(sLen+n)*i.size:=by rw[rf.1,hlen]
 have hpos:0< (sLen+n)*i.size:=Nat.mul_pos (by omega) hsz
 have hle:(sLen+n)*i.size<=nc*i.size:=R8 _ hge
 have hstep:=(Step.draw (new:=(· =st)) h).trans (Step.su (w:=w.drew) h.drew hB hst loc (.cells fl) (.cells ((olds++news).toArray++Builtin.zeroCells z.cells (nc-(sLen+n))) e) (nc*i.size) (fun K' e' _ hb' hs'=>by
  refine⟨fun h0=>by rw[h0] at hfl;simp at hfl;omega,fun _=>⟨by rw[hb'];exact hB,_,e,by rw[hb'];exact heap_alloc_new w.drew _,by rw[hs',hvs],by rw[hfl,hvs];exact hle,fun q hq=>?_⟩⟩
  rw[Bq (by omega)]
  have e0:Ext K σ.top w K σ.top w.drew:=(Step.draw (new:=fun _=>False) h).ext
  exact(rf.2 q hq).ext (e0.trans e')))
 refine⟨_,_,_,hrun,?_,hstep⟩
 have key:Rel (K.dF st w.drew.heap.size (nc*i.size) loc) (σ.setObj loc st (.cells fl)).top (w.drew.alloc (.cells ((olds++news).toArray++Builtin.zeroCells z.cells (nc-(sLen+n))) e)) (.vw loc st 0 (sLen+n) (sLen+n) i.size ag)
  (.slice (some (at_ ((K.dF st w.drew.heap.size (nc*i.size) loc).blk st) 0)) (sLen+n) nc):=
  .vw loc st 0 _ _ i.size ag nc (.inr rfl) hge (mF _) (by show 0+_<=upd K.sz st _ st;rw[upd_same];omega)
 have hblk:(K.dF st w.drew.heap.size (nc*i.size) loc).blk st=w.heap.size:=upd_same _ _ _
 rw[hblk] at key
 exact key
theorem Bu {b:Nat} {vals:Array Value} {t:TypeId} {off:Nat} {news:List Value} (g1:w.heap[b]? =some (.cells vals t (0,0))) (hle:off+news.length<=vals.size) (hone:∀u∈news,u.oneCell'=true):
 ∃w' vals',(storeCells (at_ b off) news).run E.P w= .ok () w'/\Only b w w'/\w'.heap[b]? =some (.cells vals' t (0,0))/\vals'.size=vals.size/\
  ∀i,i<vals.size->vals'.getD i undef=if off<=i/\i<off+news.length then news.getD (i-off) undef else vals.getD i undef:=by
 have hrun:=run_storeCells_at E.P b off t news 0 vals w g1 (by omega) hone
 refine⟨_,_,hrun,?_,setRow_heap w b vals _ t (0,0) g1,by simp;omega,fun i pX=>?_⟩
 ·refine⟨rfl,rfl,rfl,by simp[World.setRow],fun k hk _=>?_⟩
  simp[World.setRow,Array.getElem?_modify,Ne.symm hk]
 ·have hl:(vals.toList.take (off+0)).length=off:=by simp;omega
  have harr:∀(l:List Value),l.toArray.getD i undef=l.getD i undef:=fun l=>by simp[Array.getD,List.getD];split<;>simp_all
  rw[harr,Si]
  by_cases h1:i<off
  ·rw[fO (by omega),fM _ (by omega),if_neg (by omega)]
   simp[List.getD,Array.getD,pX]
  ·rw[fP (by omega),hl]
   by_cases h2:i-off<news.length
   ·rw[fO h2,if_pos (by omega)]
   ·rw[fP (by omega),gL,if_neg (by omega)]
    have:off+0+news.length+(i-off-news.length)=i:=by omega
    rw[this]
    simp[List.getD,Array.getD,pX]
theorem wB {loc:Loc} {s:Nat} {ob:AObj} (ho:σ.obj loc=some (s,ob)):σ.setObj loc s ob=σ:=by
 unfold Sig.setObj
 have:upd σ.obj loc (some (s,ob))=σ.obj:=by
  funext l
  unfold upd
  split
  ·rename_i hl;rw[hl,ho]
  ·rfl
 rw[this]
theorem wC (h:ay E B0 σ K w) (hB:B0<=w.heap.size) {loc:Loc} {s off:Nat} {cs fl:List V} {news:List Value} (hcs:σ.cellsAt loc s=some cs) (rf:iU K σ.top w fl news) (hle:off+fl.length<=cs.length) (hone:∀u∈news,u.oneCell'=true):
 ∃w',(storeCells (at_ (K.blk s) off) news).run E.P w= .ok () w'/\Step E B0 new σ K w (σ.setObj loc s (.cells (spliceL cs off fl))) K w':=by
 obtain⟨ho,_,_⟩:=h.iQ hcs
 obtain⟨_,bY,_⟩:=h.obj _ _ _ ho
 by_cases hne:cs=[]
 ·subst hne
  have h0:fl=[]:=by cases fl with|nil=>rfl|cons a b=>simp at hle
  subst h0
  have h0':news=[]:=SA (by rw[<-rf.1];rfl)
  subst h0'
  have hsp:spliceL [] off []=([]:List V):=by simp[spliceL]
  rw[hsp,wB ho]
  exact⟨w,rfl,.refl h⟩
 ·obtain⟨hb0,vals,t',g1,g2,g3,g4⟩:=bY.2 hne
  obtain⟨w',vals',r1,r2,r3,r4,r5⟩:=Bu (E:=E) (off:=off) (news:=news) g1 (by have:=rf.1;omega) hone
  refine⟨w',r1,Step.setCells h hB ho hne g1 r2 r3 r4 (by intro h0;have:=kU hle;rw[h0] at this;exact hne (SA this.symm)) (by rw[kU hle,r4];exact g3) (fun e i hi=>?_)⟩
  rw[kU hle] at hi
  have hiv:i<vals.size:=RS hi g3
  rw[vY hle,r5 i hiv,<-rf.1]
  by_cases hh:off<=i/\i<off+fl.length
  ·rw[if_pos hh,if_pos hh]
   exact(rf.2 _ (by omega)).ext e
  ·rw[if_neg hh,if_neg hh]
   exact(g4 i hi).ext e
end
section
variable {E:Env} {B0:Nat} {σ:Sig} {K:Con} {w:World} {new:Nat->Prop} {T:Nat->Nat}
theorem wD {n b:Nat} (h:roomOK n b=true):n<=2^47/\n*b<=2^47:=by
 simp only[roomOK,RD,decide_eq_true_eq] at h
 exact⟨h.2,h.1⟩
theorem IW {sz:Nat} {ys:List V} {news:List Value} (h:cO K T w sz ys news):(ys.flatMap V.cells).length=ys.length*sz:=by
 have:∀v∈ys,v.cells.length=sz:=fun v hv=>by
  obtain⟨i,hi,rfl⟩:=TB.1 hv
  have:=(h i hi).1
  rwa[bX hi] at this
 clear h
 induction ys with
 |nil=>simp
 |cons a l ih=>
  rw[Sj,RY,ih (fun v hv=>this v (by simp[hv])),this a (by simp),List.length_cons,Sv]
  omega
theorem Bv (h:ay E B0 σ K w) {loc:Loc} {s:Nat} {cs:List V} (hcs:σ.cellsAt loc s=some cs) {n:Nat} (hn:n<=cs.length):
 ∃vals:Nat->Value,iU K σ.top w (cs.take n) ((List.range n).map vals)/\∀j,j<n->w.cell? (at_ (K.blk s) j)=some (vals j):=by
 obtain⟨ho,_,_⟩:=h.iQ hcs
 obtain⟨_,bY,_⟩:=h.obj _ _ _ ho
 by_cases hne:cs=[]
 ·subst hne
  have:n=0:=by simpa using hn
  subst this
  exact⟨fun _=>undef,⟨rfl,fun q hq=>absurd hq (RI q)⟩,fun j hj=>absurd hj (RI j)⟩
 ·obtain⟨hb0,vals,t',g1,g2,g3,g4⟩:=bY.2 hne
  refine⟨fun j=>vals.getD j undef,⟨by simp;omega,fun q hq=>?_⟩,fun j hj=>?_⟩
  ·have hq':q<n:=by simp at hq;omega
   rw[fM _ hq']
   have:((List.range n).map fun j=>vals.getD j undef).getD q undef=vals.getD q undef:=by simp[List.getD,hq']
   rw[this]
   exact g4 q (by omega)
  ·have:j<vals.size:=by omega
   simp[World.cell?,g1,this]
theorem IX (h:ay E B0 σ K w) (hB:B0<=w.heap.size) {t tx ty e:TypeId} {i:TypeInfo} {z:Value} {st s len cap:Nat} {bW loc:Loc} {ag jX:Bool} {ys cs:List V} {cx cy:Value} {news:List Value} {v:V} {σ':Sig} (ht:E.P.underlying t=some (.slice e)) (hi:E.P.info? e=some i) (hz:i.zero=some z)
 (hzs:z.cells.size=i.size) (hsz:0<i.size) (hst:¬K.A st) (hx:Rel K σ.top w (.vw bW s 0 len cap i.size jX) cx) (hs:jF E.P w i.size ys.length tx z cy news) (ry:cO K σ.top w i.size ys news)
 (h47:len+ys.length<=2^47) (hb:(len+ys.length)*i.bytes<=2^47) (hcs:σ.cellsAt bW s=some cs)
 (hv:(if len+ys.length<=cap then
     if (len+ys.length)*i.size<=cs.length then
      some (V.vw bW s 0 (len+ys.length) cap i.size ag,σ.setObj bW s (.cells (spliceL cs (len*i.size) (ys.flatMap V.cells))))
     else none
    else if len*i.size<=cs.length then
     some (.vw loc st 0 (len+ys.length) (len+ys.length) i.size ag,(σ.bR bW).setObj loc st (.cells (cs.take (len*i.size)++ys.flatMap V.cells)))
    else none)=some (v,σ')):
 Done E B0 (· =st) σ K w (Builtin.append_ #[t,tx] ty #[cx,cy]) v σ':=by
 have hb':ys.length*i.bytes<=2^47:=RG (R8 _ (Nat.le_add_left _ _)) hb
 have hfl:=IW ry
 have p9:=nY ry hs.len
 have hsum:(len+ys.length)*i.size=len*i.size+ys.length*i.size:=Sq _ _ _
 obtain⟨ho,hA,hks⟩:=h.iQ hcs
 split at hv
 ·rename_i hcap
  split at hv
  ·rename_i hle
   simp only[iE,iR] at hv
   obtain⟨rfl,rfl⟩:=hv
   cases hx with
   |dM=>
    have hys:ys=[]:=SA (by omega)
    subst hys
    have e1:spliceL cs (0*i.size) ([].flatMap V.cells)=cs:=by simp[spliceL]
    rw[e1,wB ho]
    exact⟨_,_,_,kV (ty:=ty) (base:=none) (sLen:=0) (sCap:=0) ht hi hz hs rfl (mF _),.dM bW s i.size ag hA,.refl h⟩
   |vw _ _ _ _ _ _ _ aM hA' hcc hlc sU=>
    obtain⟨w',r1,r2⟩:=wC (new:=(· =st)) h hB hcs p9 (off:=len*i.size) (by rw[hfl];omega) hs.one
    have hrun:=run_append_room' (ty:=ty) (sLen:=len) (sCap:=aM) (base:=some (at_ (K.blk s) 0)) (w':=w') ht hi hz hs (by omega) hb' (by omega) (fun a ha=>by
     simp only[iE] at ha;subst ha
     rw[addr_add,Sr];exact r1) (fun hn=>by cases hn)
    exact⟨_,_,_,hrun,.vw bW s 0 _ cap i.size ag aM hA hcc hcap sU,r2⟩
  ·simp at hv
 ·rename_i hcap
  split at hv
  ·rename_i hle
   simp only[iE,iR] at hv
   obtain⟨rfl,rfl⟩:=hv
   have grow:∀base aM,(∀w',w'.heap=w.heap->∀vals:Nat->Value,(∀j,j<len*i.size->w.cell? (at_ (K.blk s) j)=some (vals j))->(Builtin.firstCells i.size len (.slice base len aM)).run E.P w'= .ok ((List.range (len*i.size)).map vals).toArray w')->aM<len+ys.length->
    Done E B0 (· =st) σ K w (Builtin.append_ #[t,tx] ty #[.slice base len aM,cy]) (.vw loc st 0 (len+ys.length) (len+ys.length) i.size ag) ((σ.bR bW).setObj loc st (.cells (cs.take (len*i.size)++ys.flatMap V.cells))):=by
    intro base aM hold hroom
    obtain⟨vals,g1,g2⟩:=Bv h hcs hle
    have hd:=Step.bR (new:=(· =st)) h bW
    obtain⟨a,b,c,d1,d2,d3⟩:=wu (ty:=ty) (ag:=ag) (loc:=loc) (base:=base) (sLen:=len) (sCap:=aM) (σ:=σ.bR bW) (olds:=(List.range (len*i.size)).map vals) hd.ok hB ht hi hz hzs hsz hs (fun w' hw=>hold w' hw vals g2) (by simp) h47 hb hroom ((g1.append p9).ext hd.ext) hst
    exact⟨a,b,c,d1,d2,hd.trans d3⟩
   cases hx with
   |dM=>exact grow none 0 (fun w' _ vals _=>by simp[Builtin.firstCells]) (by omega)
   |vw _ _ _ _ _ _ _ aM hA' hcc hlc sU=>
    by_cases hr:len+ys.length<=aM
    ·have hmc:=R8 i.size hr
     have hpos:0< (len+ys.length)*i.size:=Nat.mul_pos (by omega) hsz
     obtain⟨_,bY,_⟩:=h.obj _ _ _ ho
     have hne:cs≠[]:=by
      rintro rfl
      have:=bY.1 rfl
      omega
     obtain⟨hb0,vals,t',g1,g2,g3,g4⟩:=bY.2 hne
     obtain⟨w',vals',r1,r2,r3,r4,r5⟩:=Bu (E:=E) (off:=len*i.size) (news:=news) g1 (by have:=p9.1;omega) hs.one
     have hrun:=run_append_room' (ty:=ty) (sLen:=len) (sCap:=aM) (base:=some (at_ (K.blk s) 0)) (w':=w') ht hi hz hs (by omega) hb' hr (fun a ha=>by
      simp only[iE] at ha;subst ha
      rw[addr_add,Sr];exact r1) (fun hn=>by cases hn)
     have hcl:(cs.take (len*i.size)++ys.flatMap V.cells).length=(len+ys.length)*i.size:=by simp only[RY,R3,hfl];omega
     have hstep:=Step.HV (loc:=loc) (cs:=cs.take (len*i.size)++ys.flatMap V.cells) h hB hst ho hne g1 r2 r3 (by intro h0;rw[h0] at hcl;simp at hcl;omega) (by omega) (fun K' e' q hq=>by
      have IY:q<vals.size:=by omega
      have hrf:=p9.1
      have hlt:(cs.take (len*i.size)).length=len*i.size:=by simp only[R3];omega
      rw[r5 q IY]
      by_cases h1:q<len*i.size
      ·rw[fO (by omega),fM _ h1,if_neg (by omega)]
       exact(g4 q (by omega)).ext e'
      ·rw[fP (by omega),hlt,if_pos (by omega)]
       exact(p9.2 _ (by omega)).ext e')
     refine⟨_,_,_,hrun,?_,hstep⟩
     have key:Rel (K.dF st (K.blk s) vals'.size loc) ((σ.bR bW).setObj loc st (.cells (cs.take (len*i.size)++ys.flatMap V.cells))).top w' (.vw loc st 0 (len+ys.length) (len+ys.length) i.size ag)
      (.slice (some (at_ ((K.dF st (K.blk s) vals'.size loc).blk st) 0)) (len+ys.length) aM):=
      .vw loc st 0 _ _ i.size ag aM (.inr rfl) hr (mF _) (by show 0+_<=upd K.sz st _ st;rw[upd_same];omega)
     have hblk:(K.dF st (K.blk s) vals'.size loc).blk st=K.blk s:=upd_same _ _ _
     rw[hblk] at key
     exact key
    ·exact grow (some (at_ (K.blk s) 0)) aM (fun w' hw vals IZ=>by
      have:=nX (E:=E) (w:=w) (sz:=i.size) (n:=len) (cap:=aM) (b:=K.blk s) (o:=0) (val:=fun p q=>vals (p*i.size+q)) (fun p q hp hq=>by
       rw[Sr];exact IZ _ (mul_lt hp hq)) w' hw
      rw[this]
      congr 3
      funext q
      show vals (q/i.size*i.size+q% i.size)=vals q
      rw[SL,Nat.div_add_mod]) (by omega)
  ·simp at hv
theorem wE (h:ay E B0 σ K w) (hB:B0<=w.heap.size) {om zeros:Bool} {st:Nat} {loc:Option Loc} {t tx ty:TypeId} {x y v:V} {cx cy:Value} {σ':Sig} (hst:¬K.A st) (hx:Rel K σ.top w x cx) (hy:Rel K σ.top w y cy)
 (hk:zeros=true->∃k,E.P.underlying tx=some (.int k)) (hk':zeros=false->(∃e',E.P.underlying tx=some (.slice e'))\/E.P.underlying tx=some .string)
 (hv:dw E.P om zeros σ st loc t x y=some (v,σ')):Done E B0 (· =st) σ K w (Builtin.append_ #[t,tx] ty #[cx,cy]) v σ':=by
 simp only[dw,iP] at hv
 obtain⟨e,he,sz,hsz,by_,hby,ag,hag,z,hz,hv⟩:=hv
 split at hv
 ·rename_i hc
  obtain⟨c1,c2,c3,c4⟩:=hc
  simp only[iP] at hv
  obtain⟨ys,hys,hv⟩:=hv
  split at hv
  ·rename_i hone
   have hu:=nN he
   obtain⟨i,cz,hi,rfl,rfl,hiz,hzv⟩:=Bt hsz hby hz
   have hraw:notRaw z=true:=nM hz
   obtain⟨Rj,_,hz2⟩:=kT w hz
   have hrz:Rel K σ.top w z cz:=sH hzv
   have hzs:cz.cells.size=i.size:=by rw[<-(jW hrz hraw).1,c2]
   obtain⟨news,hs,ry⟩:=II (e:=e) h hy hrz hraw c2 c4 hk hk' c1 hys hone rfl
   cases x with
   |lst c l=>
    simp only at hv
    split at hv
    ·rename_i hr
     obtain⟨hr,hhead⟩:=hr
     obtain⟨h47,hb⟩:=wD hr
     have Bw:∀loc,(c= .nil\/(c= .full/\ys≠[]))->Done E B0 (· =st) σ K w (Builtin.append_ #[t,tx] ty #[cx,cy]) (.vw loc st 0 (l.length+ys.length) (l.length+ys.length) i.size ag) (σ.setObj loc st (.cells ((l++ys).flatMap V.cells))):=by
      intro loc hcc
      have I4:=nY ry hs.len
      rcases nW hx hhead (fun n s hh=>by rcases hcc with rfl| ⟨rfl,_⟩<;>cases hh) with ⟨a0,rfl,ha0,rfl,_⟩| ⟨b,o,cap,val,rfl,h2,h3,h4,h5,h6⟩
      ·by_cases hy0:ys=[]
       ·subst hy0
        have ha:a0=none:=by
         rcases hcc with h1| ⟨_,h1⟩
         ·exact ha0 h1
         ·exact absurd rfl h1
        subst ha
        exact⟨_,_,_,kV (ty:=ty) (base:=none) (sLen:=0) (sCap:=0) hu hi hiz hs rfl (mF _),.dM loc st i.size ag (Or.inr rfl),Step.IV h loc hst⟩
       ·have hl:0<ys.length:=S9.2 hy0
        have:=wu (ty:=ty) (ag:=ag) (loc:=loc) (base:=a0) (olds:=[]) (sLen:=0) (sCap:=0) (fl:=ys.flatMap V.cells) h hB hu hi hiz hzs c3 hs (fun w' _=>p8 w' i.size a0) (by simp) (by simpa using h47) (by simpa using hb) (by omega) (by simpa using I4) hst
        simpa using this
      ·rcases hcc with rfl| ⟨rfl,hy0⟩
       ·exact h6.elim
       ·have hcap:cap=l.length:=h6
        subst hcap
        have hl:0<ys.length:=S9.2 hy0
        have rc:=Bo (sS h3 h5) ry (by simp)
        exact wu (ty:=ty) (ag:=ag) (loc:=loc) (base:=some (at_ b o)) h hB hu hi hiz hzs c3 hs (fun w' hw=>nX (fun p j hp hj=>(h4 p j hp hj).1) w' hw) (by simp) h47 hb (by omega) (nY rc (by rw[RY,hs.len,RY,Sq];simp)) hst
     cases om with
     |true=>
      cases c with
      |nil=>
       simp only[RF,iR] at hv
       obtain⟨loc,_,rfl,rfl⟩:=hv
       exact Bw loc (.inl rfl)
      |full=>
       simp only at hv
       split at hv
       ·rename_i hy0
        simp only[iE,iR] at hv
        obtain⟨rfl,rfl⟩:=hv
        have hn:ys.length=0:=by simpa using hy0
        rcases nW hx hhead (fun n s hh=>by cases hh) with ⟨a0,rfl,_,rfl,_⟩| ⟨b,o,cap,val,rfl,h2,h3,h4,h5,h6⟩
        ·exact⟨_,_,_,kV (ty:=ty) (base:=a0) (sLen:=0) (sCap:=0) hu hi hiz hs hn (mF _),hx,Step.refl h⟩
        ·exact⟨_,_,_,kV (ty:=ty) (base:=some (at_ b o)) hu hi hiz hs hn (by omega),hx,Step.refl h⟩
       ·rename_i hy0
        simp only[RF,iR] at hv
        obtain⟨loc,_,rfl,rfl⟩:=hv
        exact Bw loc (.inr ⟨rfl,fun h0=>hy0 (by rw[h0];rfl)⟩)
      |own n s=>simp at hv
      |sh=>simp at hv
     |false=>
      refine IU (ty:=ty) h hB hu hi hiz hzs c3 hst hx hs ry h47 hb hhead ?_
      rw[<-hv]
      cases c<;>rfl
    ·simp at hv
   |vw bW s off len cap au jX=>
    simp only at hv
    split at hv
    ·rename_i hr
     obtain⟨hr,_,rfl,rfl⟩:=hr
     obtain⟨h47,hb⟩:=wD hr
     simp only[iP] at hv
     obtain⟨loc,_,cs,hcs,hv⟩:=hv
     exact IX (ty:=ty) h hB hu hi hiz hzs c3 hst hx hs ry h47 hb hcs hv
    ·simp at hv
   |_=>simp at hv
  ·simp at hv
 ·simp at hv
end
section
variable {E:Env} {B0:Nat} {σ:Sig} {K:Con} {w:World} {new:Nat->Prop} {T:Nat->Nat}
theorem Bz {v:V} {n:Int} {c:Value} (hr:Rel K T w v c) (h:dK v=some n):∃k,c= .int k n:=by
 cases v with
 |int k m=>
  simp only[dK,iE] at h;subst h
  cases hr;exact⟨k,rfl⟩
 |_=>simp[dK] at h
theorem I6 (h:ay E B0 σ K w) (hB:B0<=w.heap.size) {om:Bool} {st:Nat} {loc:Option Loc} {t:TypeId} {l c v:V} {cl cc:Value} {σ':Sig} (hst:¬K.A st) (hl:Rel K σ.top w l cl) (hc:Rel K σ.top w c cc)
 (hv:jf E.P om σ st loc t l c=some (v,σ')):Done E B0 (· =st) σ K w (Instr.makeSlice t cl cc) v σ':=by
 simp only[jf,iP] at hv
 obtain⟨e,he,sz,hsz,by_,hby,z,hz,n,hn,m,hm,hv⟩:=hv
 split at hv
 ·rename_i hcond
  obtain⟨c1,c2,c3,c4,c5⟩:=hcond
  obtain⟨hr1,hr2⟩:=wD c3
  obtain⟨k1,rfl⟩:=Bz hl hn
  obtain⟨k2,rfl⟩:=Bz hc hm
  obtain⟨i,cz,hi,rfl,rfl,hiz,hzv⟩:=Bt hsz hby hz
  have hraw:notRaw z=true:=nM hz
  have hrz:Rel K σ.top w z cz:=sH hzv
  have hrl:=sK hrz hraw c5 m.toNat
  have hu:=nN he
  have hb:(i.bytes:Int)*m<=281474976710656:=by
   have h1:((m.toNat*i.bytes:Nat):Int)<=((2^47:Nat):Int):=Int.ofNat_le.2 hr2
   rw[Int.natCast_mul,Int.toNat_of_nonneg (by omega),Int.mul_comm] at h1
   have:((2^47:Nat):Int)=140737488355328:=by decide
   omega
  have hrun:=run_make (P:=E.P) w t e i cz hu hi hiz k1 k2 n m c1 c2 hb (by omega)
  have BA:madeCells cz.cells (m.toNat*i.size)=(Array.range (m.toNat*i.size)).map fun j=>cz.cells[j% cz.cells.size]! :=rfl
  have hms:(madeCells cz.cells (m.toNat*i.size)).size=m.toNat*i.size:=by rw[BA];simp
  split at hv
  ·rename_i h0
   obtain⟨rfl,_⟩:=h0
   simp only[iE,iR] at hv
   obtain⟨rfl,rfl⟩:=hv
   have hstep:=Step.Aw h hB st 0 (.inl hst) (madeCells cz.cells (m.toNat*i.size)) e 0 (Sb _)
   refine⟨_,_,_,hrun,?_,hstep⟩
   refine .lst _ [] w.heap.size 0 i.size m.toNat (fun _ _=>undef) (Sb _) (fun p hp=>absurd hp (RI p)) (fun p q hp=>absurd hp (RI p)) (fun p q hp=>absurd hp (RI p)) ⟨rfl,Or.inr rfl,Sb _,fun _=>⟨upd_same _ _ _,?_,?_⟩⟩
   ·show upd K.lo st _ st=_
    rw[upd_same];simp
   ·show upd K.hi st _ st=_
    rw[upd_same,hms];simp
  ·simp only[iP,RF,iR] at hv
   obtain⟨loc,_,ag,_,rfl,rfl⟩:=hv
   have hfl:(List.replicate m.toNat z.cells).flatten.length=m.toNat*i.size:=by simp[c5]
   have hstep:=Step.su h hB hst loc (.cells (List.replicate m.toNat z.cells).flatten) (.cells (madeCells cz.cells (m.toNat*i.size)) e) (m.toNat*i.size) (fun K' e' _ hb' hs'=>by
    refine⟨fun h0=>by rw[h0] at hfl;rw[hs',<-hfl];rfl,fun _=>⟨by rw[hb'];exact hB,_,e,by rw[hb'];exact heap_alloc_new w _,by rw[hs',hms],by rw[hfl,hms];exact mF _,fun q hq=>?_⟩⟩
    have:=hrl.2 q hq
    rw[<-BA] at this
    exact this.ext e')
   refine⟨_,_,_,hrun,?_,hstep⟩
   have key:Rel (K.dF st w.heap.size (m.toNat*i.size) loc) (σ.setObj loc st (.cells (List.replicate m.toNat z.cells).flatten)).top (w.alloc (.cells (madeCells cz.cells (m.toNat*i.size)) e)) (.vw loc st 0 n.toNat m.toNat i.size ag)
    (.slice (some (at_ ((K.dF st w.heap.size (m.toNat*i.size) loc).blk st) 0)) n.toNat m.toNat):=
    .vw loc st 0 _ _ i.size ag _ (Or.inr rfl) (mF _) (by omega) (by show 0+_<=upd K.sz st _ st;rw[upd_same];omega)
   have hblk:(K.dF st w.heap.size (m.toNat*i.size) loc).blk st=w.heap.size:=upd_same _ _ _
   rw[hblk] at key
   exact key
 ·simp at hv
theorem I7 (h:ay E B0 σ K w) {ag:Bool} {sz:Nat} {z y:V} {cy:Value} {ys:List V} (hy:Rel K σ.top w y cy) (hag:(ag||sz==1)=true) (hi:jV y=false) (hv:dQ σ ag sz z y=some ys):
 ∃cells,cells.length=ys.length*sz/\cO K σ.top w sz ys cells/\(∀w',(Builtin.lenOf cy).run E.P w'= .ok ys.length w')/\
  ∀n,n<=ys.length->(Builtin.firstCells sz n cy).run E.P w= .ok (cells.take (n*sz)).toArray w:=by
 have hrange:∀(f:Nat->Value) (a b:Nat),a<=b->((List.range b).map f).take a=(List.range a).map f:=by
  intro f a b hab
  rw[<-List.map_take,List.take_range,Tm hab]
 cases y with
 |int=>simp[jV] at hi
 |lst c l=>
  simp only[dQ] at hv
  split at hv
  ·rename_i hs
   simp only[iE] at hv;subst hv
   have hx':=nV hy
   rcases nW hx' hs (fun n s hh=>by cases hh) with ⟨a,rfl,_,rfl,_⟩| ⟨b,o,cap,val,rfl,h2,h3,h4,h5,h6⟩
   ·exact⟨[],by simp,fun p hp=>absurd hp (RI p),fun _=>rfl,fun n hn=>by
     obtain rfl:n=0:=by simpa using hn
     simpa using p8 w sz a⟩
   ·refine⟨_,by simp,sS h3 h5,fun _=>rfl,fun n hn=>?_⟩
    rw[hrange _ _ _ (R8 _ hn)]
    exact nX (E:=E) (cap:=cap) (fun p q hp hq=>(h4 p q (by omega) hq).1) w rfl
  ·simp at hv
 |str s=>
  simp only[dQ] at hv
  split at hv
  ·rename_i hs
   simp only[iE] at hv;subst hv;subst hs
   obtain⟨cells,_,h2⟩:=Bj (E:=E) (e:=(default:TypeId)) hy
   cases hy with|str _ b hb=>
   subst hb
   refine⟨byteCells b,by simp[byteCells],?_,fun w'=>by simp[Builtin.lenOf],fun n hn=>?_⟩
   ·intro i hi
    have hi':i<b.data.toList.length:=by simpa using hi
    have hg:(b.data.toList.map eU).getD i undefV=eU b.data.toList[i]:=by rw[bX hi,Te]
    rw[hg]
    refine⟨rfl,fun j hj=>?_⟩
    obtain rfl:j=0:=by omega
    have hv:(byteCells b).getD (i*1+0) undef= .int .u8 b.data.toList[i].toNat:=by
     have sQ:i<b.size:=by simpa using hi'
     simp[byteCells,List.getD,sQ]
    rw[hv]
    exact .int _ _
   ·simp only[Builtin.firstCells,Sem.run_pure]
    congr 1
    apply Array.ext'
    simp[byteCells]
  ·simp at hv
 |vw loc s off len cap au jX=>
  simp only[dQ] at hv
  split at hv
  ·simp at hv
  ·rename_i he
   have he:au=sz:=by simpa using he
   subst he
   simp only[iP] at hv
   obtain⟨cs,hcs,hv⟩:=hv
   split at hv
   ·rename_i hc
    simp only[iE] at hv;subst hv
    have hlen:((chunks ag au len (cs.drop off)).map er).length=len:=by rw[RN,iq]
    obtain⟨vals,g1,g2⟩:=Bv h hcs hc.1
    have I8:cO K σ.top w au ((chunks ag au len (cs.drop off)).map er) ((List.range (len*au)).map fun q=>vals (off+q)):=by
     intro p hp
     rw[hlen] at hp
     have hp':p< (chunks ag au len (cs.drop off)).length:=by rw[iq];exact hp
     have hge:((chunks ag au len (cs.drop off)).map er).getD p undefV=er ((chunks ag au len (cs.drop off)).getD p undefV):=by simp[List.getD,hp']
     rw[hge,sM]
     have hcc:=vV (cs:=cs.drop off) ag (n:=au) (k:=len) (fun hf=>by subst hf;simpa using hag) (by simp;omega) (fun hf=>by
      rcases hc.2 with h1|h1
      ·simp only[oneCells,RZ] at h1⊢
       exact fun x hx=>h1 x (List.mem_of_mem_drop hx)
      ·subst h1;cases hf) hp
     have hlt:p*au+au<=len*au:=by
      have:=R8 au (Nat.succ_le_of_lt hp)
      rwa[Sv] at this
     refine⟨by rw[hcc];simp;omega,fun j hj=>?_⟩
     refine wo (by rw[hcc];simp;omega) ?_
     rw[hcc,fM _ hj,gL,gL]
     have hq:p*au+j<len*au:=by omega
     have:((List.range (len*au)).map fun q=>vals (off+q)).getD (p*au+j) undef=vals (off+(p*au+j)):=by simp[List.getD,hq]
     rw[this]
     have:=g1.2 (off+(p*au+j)) (by have:=hc.1;simp;omega)
     rw[fM _ (by omega)] at this
     have e2:((List.range (off+len*au)).map vals).getD (off+(p*au+j)) undef=vals (off+(p*au+j)):=by simp[List.getD,hq]
     rw[e2] at this
     exact this
    refine⟨_,by rw[hlen];simp,I8,fun w'=>?_,fun n hn=>?_⟩
    ·rw[hlen];cases hy<;>rfl
    ·rw[hlen] at hn
     rw[hrange _ _ _ (R8 _ hn)]
     cases hy with
     |dM=>obtain rfl:n=0:=by omega
          simp[Builtin.firstCells]
     |vw _ _ _ _ _ _ _ aM hA' hcc hlc hsz=>
      have hm:=R8 au hn
      have:=nX (E:=E) (w:=w) (sz:=au) (n:=n) (cap:=aM) (b:=K.blk s) (o:=off) (val:=fun p q=>vals (off+(p*au+q))) (fun p q hp hq=>by
       rw[Sy];exact g2 _ (by have:=mul_lt hp hq;omega)) w rfl
      have e3:(fun q=>vals (off+(q/au*au+q% au)))=fun q=>vals (off+q):=by
       funext q
       rw[SL (q/au),Nat.div_add_mod]
      rw[e3] at this
      exact this
   ·simp at hv
 |_=>simp[dQ] at hv
theorem I9 {sz n:Nat} {ys:List V} {cells:List Value} (h:cO K T w sz ys cells):cO K T w sz (ys.take n) (cells.take (n*sz)):=by
 intro i hi
 have hi':i<n/\i<ys.length:=by simp at hi;omega
 obtain⟨g1,g2⟩:=h i hi'.2
 rw[fM _ hi'.1]
 refine⟨g1,fun j hj=>?_⟩
 rw[fM _ (mul_lt hi'.1 hj)]
 exact g2 j hj
theorem Ja (h:ay E B0 σ K w) (hB:B0<=w.heap.size) {t tx ty:TypeId} {x y v:V} {cx cy:Value} {σ':Sig} (hx:Rel K σ.top w x cx) (hy:Rel K σ.top w y cy)
 (hv:copyV E.P σ t x y=some (v,σ')):Done E B0 new σ K w (Builtin.copy_ #[t,tx] ty #[cx,cy]) v σ':=by
 simp only[copyV,iP] at hv
 obtain⟨e,he,sz,hsz,ag,hag,hv⟩:=hv
 split at hv
 ·rename_i hc
  obtain⟨c1,c2⟩:=hc
  simp only[iP] at hv
  obtain⟨ys,hys,hv⟩:=hv
  split at hv
  ·rename_i hone
   have hu:=nN he
   obtain⟨cells,g1,g2,g3,g4⟩:=I7 (E:=E) h hy c2 c1 hys
   cases x with
   |vw loc s off len cap au jX=>
    simp only[iP] at hv
    obtain⟨cs,hcs,hv⟩:=hv
    split at hv
    ·rename_i hle
     obtain⟨rfl,hle⟩:=hle
     simp only[iE,iR] at hv
     obtain⟨rfl,rfl⟩:=hv
     obtain⟨ho,hA,hks⟩:=h.iQ hcs
     cases hx with
     |dM=>
      have e1:spliceL cs 0 ((ys.take (min ys.length 0)).flatMap V.cells)=cs:=by simp[spliceL]
      rw[e1,wB ho]
      refine⟨_,w,K,?_,.int .i64 _,.refl h⟩
      have g4':=g4 0 (Sb _)
      simp at g4'
      simp[Builtin.copy_,run_underlying hu,g3,dB w hsz,g4',goInt]
     |vw _ _ _ _ _ _ _ aM hA' hcc hlc sU=>
      have hn:min ys.length len<=ys.length:=Nat.min_le_left _ _
      have hone':=sN g2 g1 hone
      have hty:(ys.take (min ys.length len)).length=min ys.length len:=by simp
      have hct:(cells.take (min ys.length len*au)).length=(ys.take (min ys.length len)).length*au:=by
       rw[hty,R3,g1]
       exact Tm (R8 _ hn)
      have rf:=nY (I9 (n:=min ys.length len) g2) hct
      obtain⟨w',r1,r2⟩:=wC (new:=new) h hB hcs rf (off:=off) (by rw[rf.1,hct,hty];omega) (fun u hu=>hone' u (List.mem_of_mem_take hu))
      refine⟨_,w',K,?_,.int .i64 _,r2⟩
      have g4':=g4 _ hn
      have hm:(ys.length).min len=min ys.length len:=rfl
      simp[Builtin.copy_,run_underlying hu,g3,dB w hsz,hm,g4',r1,goInt]
    ·simp at hv
   |lst c l=>
    cases l with
    |nil=>
     simp only[iE,iR] at hv
     obtain⟨rfl,rfl⟩:=hv
     refine⟨_,w,K,?_,.int .i64 0,.refl h⟩
     have g4':=g4 0 (Sb _)
     simp at g4'
     have hst:∀a:Addr,(storeCells a []).run E.P w= .ok () w:=fun a=>rfl
     cases hx with
     |aV _ a _ _=>cases a<;>simp[Builtin.copy_,run_underlying hu,g3,dB w hsz,g4',goInt,hst]
     |lst=>simp[Builtin.copy_,run_underlying hu,g3,dB w hsz,g4',goInt,hst]
    |cons a l=>simp at hv
   |_=>simp at hv
  ·simp at hv
 ·simp at hv
theorem Jb (h:ay E B0 σ K w) (hB:B0<=w.heap.size) {t ty:TypeId} {x v:V} {cx:Value} {σ':Sig} (hx:Rel K σ.top w x cx)
 (hv:je E.P σ t x=some (v,σ')):Done E B0 new σ K w (Builtin.clear_ #[t] ty #[cx]) v σ':=by
 simp only[je,iP] at hv
 obtain⟨e,he,sz,hsz,by_,hby,z,hz,hv⟩:=hv
 split at hv
 ·rename_i hc
  obtain⟨c1,c2⟩:=hc
  have hu:=nN he
  have hraw:notRaw z=true:=nM hz
  obtain⟨cz,hzv,hrz⟩:=kT (w:=w) hz
  have hrz:Rel K σ.top w z cz:=hrz _ _
  cases x with
  |vw loc s off len cap au jX=>
   simp only[iP] at hv
   obtain⟨cs,hcs,hv⟩:=hv
   split at hv
   ·rename_i hle
    obtain⟨rfl,hle⟩:=hle
    by_cases hl0:len=0
    ·rw[if_pos hl0] at hv
     subst hl0
     simp only[iE,iR] at hv
     obtain⟨rfl,rfl⟩:=hv
     refine⟨_,w,K,?_,.tup [] #[] rfl (fun i hi=>absurd hi (RI i)),.refl h⟩
     cases hx<;>simp[Builtin.clear_,run_underlying hu]
    rw[if_neg hl0] at hv
    have h0:0<len:=Nat.pos_of_ne_zero hl0
    simp only[iE,iR] at hv
    obtain⟨rfl,rfl⟩:=hv
    cases hx with
    |dM=>exact absurd h0 (Nat.lt_irrefl _)
    |vw _ _ _ _ _ _ _ aM hA' hcc hlc sU=>
     have hcsz:cz.cells.size=au:=by rw[<-(jW hrz hraw).1,c1]
     have hzc:Builtin.zeroCells cz.cells len=(Array.range (len*au)).map fun i=>cz.cells[i% cz.cells.size]! :=by unfold Builtin.zeroCells;rw[hcsz]
     have hlen:(List.replicate len z).length=len:=List.length_replicate
     have hr:=sK hrz hraw c1 len
     have hrc:cO K σ.top w au (List.replicate len z) (Builtin.zeroCells cz.cells len).toList:=by
      intro i hi
      rw[hlen] at hi
      have hg:(List.replicate len z).getD i undefV=z:=by simp[List.getD,hi]
      rw[hg]
      refine⟨c1,fun j hj=>?_⟩
      have hq:=mul_lt hi hj
      have:=hr.2 (i*au+j) (by simp[c1];exact hq)
      have hm:(i*au+j)% au=j:=by rw[SL,Nat.mul_add_mod,Nat.mod_eq_of_lt hj]
      rw[sJ z.cells au c1 (by omega) _ _ hq,hm] at this
      rw[hzc,nU]
      exact this
     have hnl:(Builtin.zeroCells cz.cells len).toList.length=(List.replicate len z).length*au:=by rw[hzc,hlen];simp
     have hone:(List.replicate len z).all (fun v=>oneCells v.cells)=true:=RZ.2 fun u hu=>by
      rw[(List.mem_replicate.1 hu).2];exact c2
     have hone':=sN hrc hnl hone
     have rf:=nY hrc hnl
     obtain⟨w',r1,r2⟩:=wC (new:=new) h hB hcs rf (off:=off) (by rw[rf.1,hnl,hlen];omega) hone'
     refine⟨_,w',K,?_,.tup [] #[] rfl (fun i hi=>absurd hi (RI i)),r2⟩
     cases len with
     |zero=>exact absurd h0 (Nat.lt_irrefl _)
     |succ n=>simp[Builtin.clear_,run_underlying hu,hzv,r1]
   ·simp at hv
  |lst c l=>
   cases l with
   |nil=>
    simp only[iE,iR] at hv
    obtain⟨rfl,rfl⟩:=hv
    refine⟨_,w,K,?_,.tup [] #[] rfl (fun i hi=>absurd hi (RI i)),.refl h⟩
    cases hx with
    |aV _ a _ _=>cases a<;>simp[Builtin.clear_,run_underlying hu]
    |lst=>simp[Builtin.clear_,run_underlying hu]
   |cons a l=>simp at hv
  |_=>simp at hv
 ·simp at hv
end
section
variable {E:Env} {B0:Nat} {σ:Sig} {K:Con} {w:World} {new:Nat->Prop} {T:Nat->Nat}
theorem Jc (h:ay E B0 σ K w) {t ty:TypeId} {ts:Array TypeId} {x:V} {cx:Value} {n:Nat} (ht:ts[0]? =some t) (hx:Rel K σ.top w x cx) (hv:fB E σ t x=some n):
 (Builtin.len_ ts ty #[cx]).run E.P w= .ok (.int .i64 n) w:=by
 unfold fB at hv
 split at hv
 ·rename_i m e hu
  simp only[iE] at hv;subst hv
  simp[Builtin.len_,ht,run_underlying hu,goInt]
 ·rename_i k e loc s hu
  simp only[RF] at hv
  obtain⟨⟨ks,vs⟩,hm,rfl⟩:=hv
  unfold Sig.bD at hm
  split at hm
  ·rename_i s' ks' vs' ho
   split at hm
   ·rename_i hs
    subst hs
    simp only[iE,iR] at hm
    obtain⟨rfl,rfl⟩:=hm
    obtain⟨_,⟨_,es,aI,g1,g2,_⟩,_⟩:=h.obj _ _ _ ho
    cases hx
    have hg:(getObj (K.blk s')).run E.P w= .ok (.map es aI) w:=by simp[getObj,Sem.run,g1]
    simp[Builtin.len_,ht,run_underlying hu,goInt,hg,g2]
   ·simp at hm
  ·simp at hm
 ·rename_i k e ks vs hu
  simp only[iE] at hv;subst hv
  cases hx with|mapc _ _ b es aI hM hb hk hv' rk rv=>
  have hg:(getObj b).run E.P w= .ok (.map es aI) w:=by simp[getObj,Sem.run,hb]
  simp[Builtin.len_,ht,run_underlying hu,goInt,hg,hk]
 ·rename_i k e hu
  simp only[iE] at hv;subst hv
  cases hx
  simp[Builtin.len_,ht,run_underlying hu,goInt]
 ·rename_i a x hu
  simp only[RF] at hv
  obtain⟨⟨m,e⟩,hm,rfl⟩:=hv
  simp[Builtin.len_,ht,run_underlying hu,run_underlying (AO hm),goInt]
 ·rename_i e c l hu
  simp only[iE] at hv;subst hv
  cases hx<;>simp[Builtin.len_,ht,run_underlying hu,goInt]
 ·rename_i e loc s off len cap au ag hu
  simp only[iE] at hv;subst hv
  cases hx<;>simp[Builtin.len_,ht,run_underlying hu,goInt]
 ·rename_i s hu
  simp only[iE] at hv;subst hv
  cases hx with|str _ b hb=>
  subst hb
  simp[Builtin.len_,ht,run_underlying hu,goInt]
 ·simp at hv
theorem Jd {t e ty:TypeId} {ts:Array TypeId} {x v:V} {cx:Value} {σ':Sig} (ht:ts[0]? =some t) (hu:E.P.underlying t=some (.slice e))
 (hv:(match x with|.lst .nil l|.lst .full l=>some (V.int .i64 l.length,σ)|_=>none)=some (v,σ')) (hx:Rel K σ.top w x cx):
 σ'=σ/\∃c,(Builtin.cap_ ts ty #[cx]).run E.P w= .ok c w/\Rel K σ.top w v c:=by
 cases x with
 |lst c l=>
  cases c with
  |nil=>
   simp only[iE,iR] at hv
   obtain⟨rfl,rfl⟩:=hv
   cases hx with
   |aV _ a=>exact⟨rfl,_,by cases a<;>simp[Builtin.cap_,ht,run_underlying hu,goInt],.int .i64 0⟩
   |lst _ _ _ _ _ _ _ _ _ _ _ hc=>exact hc.elim
  |full=>
   simp only[iE,iR] at hv
   obtain⟨rfl,rfl⟩:=hv
   cases hx with
   |aV _ a=>exact⟨rfl,_,by cases a<;>simp[Builtin.cap_,ht,run_underlying hu,goInt],.int .i64 0⟩
   |lst _ _ _ _ _ cap _ _ _ _ _ hc=>
    have hc:cap=l.length:=hc
    subst hc
    exact⟨rfl,_,by simp[Builtin.cap_,ht,run_underlying hu,goInt],.int .i64 _⟩
  |_=>simp at hv
 |_=>simp at hv
theorem BD:∀(l:List V) (cl:List Value) (x v:V) (cx:Value),l.length=cl.length->(∀i,i<l.length->Rel K T w (l.getD i undefV) (cl.getD i undef))->Rel K T w x cx->dR false x l=some v->
 ∃c,(cl.foldlM Builtin.min2 cx).run E.P w= .ok c w/\Rel K T w v c
 | [],[],x,v,cx,_,_,hx,hv=>by
   simp only[dR,iE] at hv;subst hv
   exact⟨cx,rfl,hx⟩
 |y::l,cy::cl,x,v,cx,hl,hr,hx,hv=>by
  cases x<;>cases y<;>simp only[dR,reduceCtorEq] at hv
  rename_i k a k' b
  split at hv
  ·rename_i hk
   subst hk
   have h0:=hr 0 (by simp)
   simp at h0
   cases hx;cases h0
   obtain⟨c,h1,h2⟩:=BD l cl _ v (.int k (if b<a then b else a)) (by simpa using hl) (fun i hi=>by have:=hr (i+1) (by simp;omega);simpa using this) (.int k _) hv
   exact⟨c,by simpa [Builtin.min2] using h1,h2⟩
  ·simp at hv
 | [],_::_,_,_,_,h,_,_,_=>by simp at h
 |_::_,[],_,_,_,h,_,_,_=>by simp at h
theorem BF:∀(l:List V) (cl:List Value) (x v:V) (cx:Value),l.length=cl.length->(∀i,i<l.length->Rel K T w (l.getD i undefV) (cl.getD i undef))->Rel K T w x cx->dR true x l=some v->
 ∃c,(cl.foldlM Builtin.max2 cx).run E.P w= .ok c w/\Rel K T w v c
 | [],[],x,v,cx,_,_,hx,hv=>by
   simp only[dR,iE] at hv;subst hv
   exact⟨cx,rfl,hx⟩
 |y::l,cy::cl,x,v,cx,hl,hr,hx,hv=>by
  cases x<;>cases y<;>simp only[dR,reduceCtorEq] at hv
  rename_i k a k' b
  split at hv
  ·rename_i hk
   subst hk
   have h0:=hr 0 (by simp)
   simp at h0
   cases hx;cases h0
   obtain⟨c,h1,h2⟩:=BF l cl _ v (.int k (if b>a then b else a)) (by simpa using hl) (fun i hi=>by have:=hr (i+1) (by simp;omega);simpa using this) (.int k _) hv
   exact⟨c,by simpa [Builtin.max2] using h1,h2⟩
  ·simp at hv
 | [],_::_,_,_,_,h,_,_,_=>by simp at h
 |_::_,[],_,_,_,h,_,_,_=>by simp at h
end
end Aq
end
