import Derived.Deep.Upon
import Derived.Test.YtabmooekodficaaGreatDoorF4401
set_option linter.all false
section
namespace Aq
open Go Go.RowKit
section
variable {E:Env} {B0:Nat} {σ:Sig} {K:aB} {w:World} {new:Nat->Prop} {T:Nat->Nat}
theorem Ka (off:Nat):∀(l:List (Value×Nat)) (cs:Array Value),(l.foldl (fun cs (c,j)=>cs.setIfInBounds (off+j) c) cs).size=cs.size
 | [],_=>rfl
 |x::l,cs=>by rw[List.foldl_cons,Ka off l];simp
theorem Kc (off:Nat):∀(vs:List Value) (k:Nat) (cs:Array Value),off+k+vs.length<=cs.size->∀i,i<cs.size->
 ((vs.zipIdx k).foldl (fun cs (c,j)=>cs.setIfInBounds (off+j) c) cs).getD i undef=if off+k<=i/\i<off+k+vs.length then vs.getD (i-(off+k)) undef else cs.getD i undef
 | [],k,cs,_,i,_=>by simp;omega
 |v::vs,k,cs,h,i,hi=>by
  simp only[List.zipIdx_cons,List.foldl_cons]
  rw[Kc off vs (k+1) _ (by simp at h⊢;omega) i (by simpa using hi)]
  have hs:(cs.setIfInBounds (off+k) v).getD i undef=if off+k=i then v else cs.getD i undef:=by
   simp only[Array.getD,Array.size_setIfInBounds,hi,dif_pos]
   show (cs.setIfInBounds (off+k) v)[i]'_=_
   rw[Array.getElem_setIfInBounds]
   split<;>rfl
  rw[hs]
  simp only[List.length_cons] at h⊢
  by_cases h1:off+k=i
  ·subst h1
   rw[if_neg (by omega),if_pos rfl,if_pos (by omega)]
   simp
  ·by_cases h2:off+(k+1)<=i/\i<off+(k+1)+vs.length
   ·rw[if_pos h2,if_pos (by omega)]
    have:i-(off+k)=(i-(off+(k+1)))+1:=by omega
    rw[this,List.getD_cons_succ]
   ·rw[if_neg h2,if_neg h1,if_neg (by omega)]
theorem wE (a:Array Value) (i:Nat):a.toList.getD i undef=a.getD i undef:=by
 simp[List.getD,Array.getD];split<;>simp_all
def rM (K:aB) (T:Nat->Nat) (w:World):List (Nat×V)->List (Nat×Value)->Prop
 | [],[]=>True
 | (i,v)::a,(j,c)::b=>i=j/\Rel K T w v c/\rM K T w a b
 |_,_=>False
theorem wF {place:Nat->Option (Nat×Nat)} {place':Nat->Option (Nat×Nat)} (hp:∀i x,place i=some x->place' i=some x):
 ∀(parts:List (Nat×V)) (parts':List (Nat×Value)) (cs cs':List V) (vs:Array Value),rM K T w parts parts'->wC K T w cs vs->gN place cs parts=some cs'->
  ∃vs',Instr.fill place' vs parts'=some vs'/\wC K T w cs' vs'/\vs'.size=vs.size
 | [],[],cs,cs',vs,_,hr,h=>by
   simp only[gN,iE] at h;subst h
   exact⟨vs,rfl,hr,rfl⟩
 | (i,v)::ps,(j,c)::ps',cs,cs',vs,hpp,hr,h=>by
   obtain⟨rfl,hv,hpp⟩:=hpp
   unfold gN at h
   cases hpl:place i with
   |none=>simp[hpl] at h
   |some x=>
    obtain⟨off,size⟩:=x
    simp only[hpl] at h
    split at h
    ·rename_i hc
     obtain⟨h1,h2,h3⟩:=hc
     obtain⟨hl,hcr⟩:=mq hv h3
     have hsz:(c.cells.zipIdx.foldl (fun cs (c,j)=>cs.setIfInBounds (off+j) c) vs).size=vs.size:=by
      rw[<-Array.foldl_toList,Array.toList_zipIdx];exact Ka off _ _
     have hget:∀i,i<vs.size->(c.cells.zipIdx.foldl (fun cs (c,j)=>cs.setIfInBounds (off+j) c) vs).getD i undef=if off<=i/\i<off+c.cells.size then c.cells.getD (i-off) undef else vs.getD i undef:=by
      intro i hi
      rw[<-Array.foldl_toList,Array.toList_zipIdx]
      have:=Kc off c.cells.toList 0 vs (by simp;have:=hr.1;omega) i hi
      rw[this]
      simp only[Nat.add_zero,Array.length_toList]
      split
      ·exact wE _ _
      ·rfl
     have hrl:wC K T w (spliceL cs off v.cells) (c.cells.zipIdx.foldl (fun cs (c,j)=>cs.setIfInBounds (off+j) c) vs):=by
      refine⟨by rw[nM (by omega),hsz];exact hr.1,fun i hi=>?_⟩
      rw[nM (by omega)] at hi
      rw[EJ (by omega),hget i (by have:=hr.1;omega),<-hl]
      by_cases hh:off<=i/\i<off+v.cells.length
      ·rw[if_pos hh,if_pos hh];exact hcr _ (by omega)
      ·rw[if_neg hh,if_neg hh];exact hr.2 i hi
     obtain⟨vs',g1,g2,g3⟩:=wF hp ps ps' _ _ _ hpp hrl h
     refine⟨vs',?_,g2,by rw[g3,hsz]⟩
     unfold Instr.fill
     simp only[hp _ _ hpl]
     have hcond:¬((decide (c.cells.size≠size)||decide (off+c.cells.size>vs.size))=true):=by
      have:=hr.1
      simp;omega
     rw[if_neg hcond]
     exact g1
    ·simp at h
 | [],_::_,_,_,_,h,_,_=>h.elim
 |_::_,[],_,_,_,h,_,_=>h.elim
theorem Ah {fr:Fr} {a:Act} (h:aC E B0 σ K w) (hf:dK K σ.top w fr a.tmps):∀(l:List (Nat×Operand)),rM K σ.top w (l.map fun (i,x)=>(i,fr.ev E x)) (l.map fun (i,x)=>(i,a.eval x))
 | []=>trivial
 | (_,x)::l=>⟨rfl,mo h hf x,Ah h hf l⟩
theorem run_places:∀(l:List Field),l.all (fun f=>(szT E.P f.type).isSome)=true->
 (l.mapM (fun f=>do pure (f.offset,<-Go.sizeOf f.type):Field->Sem (Nat×Nat))).run E.P w= .ok (l.map fun f=>(f.offset,(szT E.P f.type).getD 0)) w
 | [],_=>rfl
 |f::l,h=>by
  simp only[List.all_cons,RS] at h
  obtain⟨n,hn⟩:=Option.isSome_iff_exists.1 h.1
  have ih:=run_places l h.2
  simp only[aew,Sem.run_bind,dH w hn,Result.andThen_ok,Sem.run_pure,ih,hn,aez,Option.getD_some]
theorem SE {t:TypeId} {pl:Nat->Option (Nat×Nat)} {z:V} {parts:List (Nat×V)} {parts':Array (Nat×Value)} {cs:List V} (hpl:partsT E t=some pl) (hz:zeroT E.P t=some z)
 (hp:rM K T w parts parts'.toList) (hraw:notRaw z=true) (h:gN pl z.cells parts=some cs):∃c,(Instr.build t parts').run E.P w= .ok c w/\Rel K T w (.agg cs) c:=by
 obtain⟨cz,hz1,hz2⟩:=mD w hz
 have hrz:wC K T w z.cells cz.cells:=mq (hz2 K T) hraw
 unfold partsT at hpl
 split at hpl
 ·rename_i fs hu
  split at hpl
  ·rename_i hall
   simp only[iE] at hpl;subst hpl
   obtain⟨vs',g1,g2,_⟩:=wF (K:=K) (T:=T) (w:=w) (place':=fun i=>(fs.map fun f=>(f.offset,(szT E.P f.type).getD 0))[i]?) (fun i x hx=>by
    simp only[iR,aat] at hx
    obtain⟨f,hf,n,hn,rfl⟩:=hx
    simp[hf,hn]) parts parts'.toList _ _ _ hp hrz h
   refine⟨.agg vs',?_,.agg _ _ g2.1 g2.2⟩
   have hm:(fs.mapM (fun f=>do pure (f.offset,<-Go.sizeOf f.type):Field->Sem (Nat×Nat))).run E.P w= .ok (fs.map fun f=>(f.offset,(szT E.P f.type).getD 0)) w:=by
    rw[Array.mapM_eq_mapM_toList,Sem.run_map,run_places fs.toList hall]
    simp only[Result.andThen_ok]
    congr 1
    apply Array.ext'
    simp
   simp only[Instr.build,Sem.run_bind,hz1,Result.andThen_ok,run_underlying hu]
   rw[hm]
   simp only[Result.andThen_ok]
   rw[g1]
   rfl
  ·simp at hpl
 ·rename_i n e hu
  simp only[aat] at hpl
  obtain⟨sz,hsz,rfl⟩:=hpl
  obtain⟨vs',g1,g2,_⟩:=wF (K:=K) (T:=T) (w:=w) (place':=fun i=>some (i*sz,sz)) (fun i x hx=>hx) parts parts'.toList _ _ _ hp hrz h
  refine⟨.agg vs',?_,.agg _ _ g2.1 g2.2⟩
  simp only[Instr.build,Sem.run_bind,hz1,Result.andThen_ok,run_underlying hu,dH w hsz]
  rw[g1]
  rfl
 ·simp at hpl
theorem Ai (z:List V) (sz:Nat) (hz:z.length=sz) (h0:0<sz):∀(n i:Nat),i<n*sz->(List.replicate n z).flatten.getD i undefV=z.getD (i% sz) undefV
 |0,i,h=>by simp at h
 |n+1,i,h=>by
  simp only[List.replicate_succ,List.flatten_cons]
  by_cases hi:i<sz
  ·rw[gF (by omega),afB hi]
  ·have hs:(n+1)*sz=n*sz+sz:=afe n sz
   rw[gG (by omega),hz,Ai z sz hz h0 n (i-sz) (by omega)]
   congr 1
   exact(Nat.mod_eq_sub_mod (by omega)).symm
theorem wG {z:V} {cz:Value} {sz:Nat} (hz:Rel K T w z cz) (hraw:notRaw z=true) (hsz:z.cells.length=sz) (n:Nat):
 wC K T w (List.replicate n z.cells).flatten ((Array.range (n*sz)).map fun i=>cz.cells[i% cz.cells.size]!):=by
 obtain⟨h1,h2⟩:=mq hz hraw
 refine⟨by simp[hsz],fun i hi=>?_⟩
 have hi':i<n*sz:=by simpa [hsz] using hi
 have h0:0<sz:=by
  rcases Nat.eq_zero_or_pos sz with h|h
  ·subst h;simp at hi'
  ·exact h
 rw[Ai z.cells sz hsz h0 n i hi']
 have hm:i% sz<cz.cells.size:=by rw[<-h1,hsz];exact Nat.mod_lt _ h0
 have he:((Array.range (n*sz)).map fun i=>cz.cells[i% cz.cells.size]!).getD i undef=cz.cells.getD (i% sz) undef:=by
  have:cz.cells.size=sz:=by omega
  simp[Array.getD,hi',this,getElem!_pos,Nat.mod_lt _ h0]
 rw[he]
 exact h2 _ (by omega)
theorem Aj (v:V):(er v).cells.length=v.cells.length:=by
 cases v<;>simp[er,V.cells]
theorem rO {v:V} {c:Value} (h:Rel K T w v c):Rel K T w (aU v) c:=by
 cases h with
 |aT c a ha hc=>exact .aT .sh a (fun h=>by cases h) trivial
 |lst c l b o n cap val h1 h2 h3 h4 h5=>exact .lst .sh l b o n cap val h1 h2 h3 h4 trivial
 |_=>first|exact .int _ _|exact .bool _|exact .str _ _ (by assumption)|exact .nilp|exact .nilf|exact .nilm|exact .nili| (constructor<;>assumption)
theorem EN {v:V} {c:Value} (h:Rel K T w v c):Rel K T w (er v) c:=by
 cases h with
 |agg cs vs hl h=>
  refine .agg _ vs (by simpa using hl) (fun i hi=>?_)
  have hi':i<cs.length:=by simpa using hi
  have:(cs.map aU).getD i undefV=aU (cs.getD i undefV):=by simp[List.getD,hi']
  rw[this]
  exact rO (h i hi')
 |aT c a ha hc=>exact .aT .sh a (fun h=>by cases h) trivial
 |lst c l b o n cap val h1 h2 h3 h4 h5=>exact .lst .sh l b o n cap val h1 h2 h3 h4 trivial
 |_=>first|exact .int _ _|exact .bool _|exact .str _ _ (by assumption)|exact .nilp|exact .nilf|exact .nilm|exact .nili| (constructor<;>assumption)
theorem EO {v:V} {j:Nat} {c:Value} (hj:j<v.cells.length) (h:Rel K T w (v.cells.getD j undefV) c):Rel K T w ((er v).cells.getD j undefV) c:=by
 cases v with
 |agg cs=>
  have:((er (.agg cs)).cells).getD j undefV=aU (cs.getD j undefV):=by
   have hj':j<cs.length:=hj
   simp[er,V.cells,List.getD,hj']
  rw[this];exact rO h
 |lst c l=>
  have hj0:j=0:=by simp[V.cells] at hj;exact hj
  subst hj0
  exact rO h
 |_=>exact h
theorem SF {v:V} (h:notRaw v=true):notRaw (er v)=true:=by cases v<;>first|exact h|rfl
theorem SG {c:Cap} {l:List V} {x:Value} (h:Rel K T w (.lst c l) x):Rel K T w (.lst c (l.map er)) x:=by
 cases h with
 |aT _ a ha hc=>exact .aT c a ha hc
 |lst _ _ b o n cap val hle hn hcell hrel hc=>
  have hg:∀i,i<l.length->(l.map er).getD i undefV=er (l.getD i undefV):=fun i hi=>by simp[List.getD,hi]
  have key:Rel K T w (.lst c (l.map er)) (.slice (some (at_ b o)) (l.map er).length cap):=by
   refine .lst c _ b o n cap val (by simpa using hle) (fun i hi=>?_) (fun i j hi hj=>hcell i j (by simpa using hi) hj) (fun i j hi hj=>?_) (by simpa using hc)
   ·rw[hg i (by simpa using hi),Aj];exact hn i (by simpa using hi)
   ·rw[hg i (by simpa using hi)]
    exact EO (by rw[hn i (by simpa using hi)];exact hj) (hrel i j (by simpa using hi) hj)
  simpa using key
theorem SH (h:aC E B0 σ K w) (hB:B0<=w.heap.size) {t:TypeId} {len:Nat} {parts:List (Nat×V)} {parts':Array (Nat×Value)} {v:V}
 (hp:rM K σ.top w parts parts'.toList) (hv:nJ E t len parts=some v):Done E B0 new σ K w (Instr.buildSlice t len parts') v σ:=by
 simp only[nJ,iR] at hv
 obtain⟨e,he,sz,hsz,ag,hag,z,hz,hv⟩:=hv
 split at hv
 ·rename_i hc
  obtain⟨c1,c2,c3,c4⟩:=hc
  simp only[iR] at hv
  obtain⟨cs,hcs,hv⟩:=hv
  split at hv
  ·rename_i hone
   simp only[iE] at hv;subst hv
   obtain⟨cz,hz1,hz2⟩:=mD w hz
   have hraw:notRaw z=true:=pK hz
   have hrz:=wG (hz2 K σ.top) hraw c2 len
   obtain⟨vs',g1,g2,g3⟩:=wF (K:=K) (T:=σ.top) (w:=w) (place':=fun i=>some (i*sz,sz)) (fun i x hx=>by
    split at hx
    ·exact hx
    ·simp at hx) parts parts'.toList _ _ _ hp hrz hcs
   have hlen:cs.length=len*sz:=by rw[g2.1,g3];simp
   have hu:=pO he
   have hrun:(Instr.buildSlice t len parts').run E.P w= .ok (.slice (some ⟨w.heap.size,0,none⟩) len len) (w.alloc (.cells vs' e)):=by
    have hn:¬2^24<len*sz:=by omega
    by_cases h0:len*sz=0
    ·have hl0:len=0:=by
      rcases Nat.mul_eq_zero.1 h0 with h|h
      ·exact h
      ·omega
     subst hl0
     simp only[Instr.buildSlice,Sem.run_bind,run_underlying hu,Result.andThen_ok,dH w hsz,Nat.zero_mul]
     have g1':Instr.fill (fun i=>some (i*sz,sz)) #[] parts'.toList=some vs':=by
      have e0:((Array.range (0*sz)).map fun i=>cz.cells[i% cz.cells.size]!)= #[]:=by simp[Array.range_zero']
      rw[<-e0];exact g1
     have e1:∀f:Nat->Value,(Array.range 0).map f= #[]:=fun f=>by simp[Array.range_zero']
     simp only[if_true,e1,g1']
     simp[newRow]
    ·simp only[Instr.buildSlice,Sem.run_bind,run_underlying hu,Result.andThen_ok,dH w hsz,hn,gt_iff_lt,if_false,h0,hz1,Sem.run_pure]
     rw[g1]
     simp[newRow]
   have hst:=Step.JK (new:=new) h hB vs' e (0,0)
   refine⟨_,_,_,hrun,SG ?_,hst⟩
   have hext:=hst.ext
   refine rF (cap:=len) (w:=w.alloc (.cells vs' e)) (fun j=>vs'.getD j undef) (fun hf=>?_) (by omega) (fun _=>hone) (fun j hj=>⟨?_,?_⟩) (fun j hj=>(g2.2 j (by omega)).ext hext) (iP _) (by simp[iA])
   ·subst hf;simpa using c4
   ·have:=wu (w:=w) (vals:=vs') (t:=e) (fz:=(0,0)) (i:=j) (by have:=g2.1;omega)
    simpa using this
   ·right
    exact⟨rfl,by have:=g2.1;omega⟩
  ·simp at hv
 ·simp at hv
end
end Aq
end
section
namespace Aq
open Go Go.RowKit
section
variable {E:Env} {B0:Nat} {σ:Sig} {K:aB} {w:World} {new:Nat->Prop} {T:Nat->Nat}
def Src (P:Program) (w:World) (sz n:Nat) (cx:Value) (cells:List Value):Prop:=
 cells.length=n*sz/\∀w',w'.heap=w.heap->(Builtin.firstCells sz n cx).run P w'= .ok cells.toArray w'
def dA (K:aB) (T:Nat->Nat) (w:World) (sz:Nat) (l:List V) (cells:List Value):Prop:=
 ∀i,i<l.length->(l.getD i undefV).cells.length=sz/\∀j,j<sz->Rel K T w ((l.getD i undefV).cells.getD j undefV) (cells.getD (i*sz+j) undef)
theorem dA.ext {K' T' w'} {sz:Nat} {l:List V} {cells:List Value} (h:dA K T w sz l cells) (e:Ext K T w K' T' w'):dA K' T' w' sz l cells:=
 fun i hi=>⟨(h i hi).1,fun j hj=>((h i hi).2 j hj).ext e⟩
theorem mul_lt {i j n sz:Nat} (hi:i<n) (hj:j<sz):i*sz+j<n*sz:=by
 have:=ae3 sz (Nat.succ_le_of_lt hi)
 rw[afe] at this;omega
theorem Ke {f:Nat->Nat->Value} {n sz i j:Nat} (hi:i<n) (hj:j<sz):
 ((List.range (n*sz)).map fun q=>f (q/sz) (q% sz)).getD (i*sz+j) undef=f i j:=by
 have hlt:=mul_lt hi hj
 have h1:(i*sz+j)/sz=i:=by
  rw[afk,Nat.mul_add_div (by omega),Nat.div_eq_of_lt hj,Nat.add_zero]
 have h2:(i*sz+j)% sz=j:=by
  rw[afk,Nat.mul_add_mod,afB hj]
 simp[List.getD,hlt,h1,h2]
theorem wH {P:Program} (w:World) (sz:Nat) (a:Option Addr):(Builtin.firstCells sz 0 (.slice a 0 0)).run P w= .ok #[] w:=by
 cases a with
 |none=>simp[Builtin.firstCells]
 |some a=>simpa using run_firstCells_some (P:=P) w sz 0 a 0 0 [] (by simp) (fun j v hj=>by simp at hj)
theorem SI {c:Cap} {l:List V} {cx:Value} {sz:Nat} (h:Rel K T w (.lst c l) cx) (hs:eF sz l=true):∃cells,Src E.P w sz l.length cx cells/\dA K T w sz l cells:=by
 cases h with
 |aT _ a ha hc=>exact⟨[],⟨by simp,fun w' _=>wH w' sz a⟩,fun i hi=>absurd hi (ab2 i)⟩
 |lst _ _ b o n cap val hle hn hcell hrel hc=>
  by_cases h0:l=[]
  ·subst h0
   refine⟨[],⟨by simp,fun w' hw=>?_⟩,fun i hi=>absurd hi (ab2 i)⟩
   have:=run_firstCells_some (P:=E.P) w' sz 0 (at_ b o) 0 cap [] (by simp) (fun j v hj=>by simp at hj)
   simpa using this
  ·have hpos:0<l.length:=afo.2 h0
   have SK:n=sz:=ED hs hn hpos
   subst SK
   refine⟨(List.range (l.length*n)).map fun q=>val (q/n) (q% n),⟨by simp,fun w' hw=>?_⟩,fun i hi=>⟨hn i hi,fun j hj=>?_⟩⟩
   ·refine run_firstCells_some (P:=E.P) w' n l.length (at_ b o) l.length cap _ (by simp) (fun j v hj=>?_)
    have hjl:j<l.length*n:=by
     have:=(afn.1 hj).1
     simpa using this
    have hn0:0<n:=by
     rcases Nat.eq_zero_or_pos n with h|h
     ·subst h;simp at hjl
     ·exact h
    simp[hjl] at hj
    subst hj
    rw[addr_add]
    have:=(hcell (j/n) (j% n) (Nat.div_lt_of_lt_mul (by rw[afk];exact hjl)) (Nat.mod_lt _ hn0)).1
    rw[cell_of_heap (w:=w) (by rw[hw])]
    rwa[ae9,afk,Nat.div_add_mod] at this
   ·rw[Ke hi hj];exact hrel i j hi hj
theorem Kg {s:List UInt8} {cx:Value} {e:TypeId} (h:Rel K T w (.str s) cx):∃cells,Src E.P w 1 (s.map fC).length cx cells/\dA K T w 1 (s.map fC) cells:=by
 let _:=e
 cases h with|str _ b hb=>
 have hl:s.length=b.size:=by rw[<-hb];simp
 refine⟨(b.data.map fun x=>Value.int .u8 x.toNat).toList,⟨by simp[hl],fun w' _=>?_⟩,fun i hi=>?_⟩
 ·simp only[Builtin.firstCells,Sem.run_pure]
  congr 1
  have:(b.extract 0 (s.map fC).length)=b:=by
   rw[ab3,hl];simp
  rw[this]
 ·have hi':i<s.length:=by simpa using hi
  have hg:(s.map fC).getD i undefV=fC s[i]:=by simp[List.getD,hi']
  rw[hg]
  refine⟨rfl,fun j hj=>?_⟩
  obtain rfl:j=0:=by omega
  have hib:i<b.size:=by omega
  have hv:((b.data.map fun x=>Value.int .u8 x.toNat).toList).getD (i*1+0) undef= .int .u8 s[i].toNat:=by
   have e1:s[i]=b.data[i]'(by simpa using hib):=by
    subst hb;simp
   simp[List.getD,hib,e1]
  rw[hv]
  exact .int _ _
theorem SL (h:aC E B0 σ K w) {loc:Loc} {s off len cap sz:Nat} {ag mE:Bool} {cs:List V} {cx:Value} (hx:Rel K σ.top w (.vw loc s off len cap sz mE) cx) (hcs:σ.cellsAt loc s=some cs)
 (hle:off+len*sz<=cs.length) (hag:(ag||sz==1)=true) (hone:oneCells cs=true\/ag=true):
 ∃cells,Src E.P w sz ((chunks ag sz len (cs.drop off)).map er).length cx cells/\dA K σ.top w sz ((chunks ag sz len (cs.drop off)).map er) cells:=by
 obtain⟨ho,hA,hks⟩:=h.jF hcs
 obtain⟨_,bI,_⟩:=h.obj _ _ _ ho
 have hlen:((chunks ag sz len (cs.drop off)).map er).length=len:=by rw[ab3,iZ]
 rw[hlen]
 cases hx with
 |dR=>exact⟨[],⟨by simp,fun w' _=>by simp[Builtin.firstCells]⟩,fun i hi=>by rw[hlen] at hi;omega⟩
 |vw _ _ _ _ _ _ _ aL hA' hcc hlc hsz=>
  by_cases h0:len*sz=0
  ·refine⟨[],⟨by simp[h0],fun w' _=>?_⟩,fun i hi=>?_⟩
   ·have:=run_firstCells_some (P:=E.P) w' sz len (at_ (K.blk s) off) len aL [] (by simp[h0]) (fun j v hj=>by simp at hj)
    simpa using this
   ·rw[hlen] at hi
    have hsz0:sz=0:=by
     rcases Nat.mul_eq_zero.1 h0 with h|h
     ·omega
     ·exact h
    subst hsz0
    have hag':ag=true:=by simpa using hag
    subst hag'
    refine⟨?_,fun j hj=>absurd hj (ab2 j)⟩
    have hi':i< (chunks true 0 len (cs.drop off)).length:=by rw[iZ];exact hi
    have:((chunks true 0 len (cs.drop off)).map er).getD i undefV=er ((chunks true 0 len (cs.drop off)).getD i undefV):=by simp[List.getD,hi']
    rw[this,Aj,EF _ _ _ _ _ hi]
    simp[V.cells]
  ·obtain⟨_,vals,t,g1,g2,g3,g4⟩:=bI.2 (by rintro rfl;simp at hle;omega)
   refine⟨(List.range (len*sz)).map fun q=>vals.getD (off+q) undef,⟨by simp,fun w' hw=>?_⟩,fun i hi=>?_⟩
   ·refine run_firstCells_some (P:=E.P) w' sz len (at_ (K.blk s) off) len aL _ (by simp) (fun j v hj=>?_)
    have hjl:j<len*sz:=by
     have:=(afn.1 hj).1
     simpa using this
    simp only[List.getElem?_map,List.getElem?_range hjl,Option.map_some,iE] at hj
    subst hj
    rw[addr_add,cell_of_heap (w:=w) (by rw[hw])]
    simp[World.cell?,g1,show off+j<vals.size by omega]
   ·rw[hlen] at hi
    have hi':i< (chunks ag sz len (cs.drop off)).length:=by rw[iZ];exact hi
    have hge:((chunks ag sz len (cs.drop off)).map er).getD i undefV=er ((chunks ag sz len (cs.drop off)).getD i undefV):=by simp[List.getD,hi']
    rw[hge,Aj]
    have hcc:=EG (cs:=cs.drop off) ag (n:=sz) (k:=len) (fun hf=>by subst hf;simpa using hag) (by simp;omega) (fun hf=>by
     rcases hone with h1|h1
     ·simp only[oneCells,aeP] at h1⊢
      exact fun x hx=>h1 x (List.mem_of_mem_drop hx)
     ·subst h1;cases hf) hi
    have hlt:i*sz+sz<=len*sz:=by
     have:=ae3 sz (Nat.succ_le_of_lt hi)
     rwa[afe] at this
    refine⟨by rw[hcc];simp;omega,fun j hj=>?_⟩
    refine EO (by rw[hcc];simp;omega) ?_
    rw[hcc,gD _ hj,iC,iC]
    have hq:i*sz+j<len*sz:=by omega
    have:((List.range (len*sz)).map fun q=>vals.getD (off+q) undef).getD (i*sz+j) undef=vals.getD (off+(i*sz+j)) undef:=by
     simp[List.getD,hq]
    rw[this]
    exact g4 _ (by omega)
structure kS (P:Program) (w:World) (sz n:Nat) (tx:TypeId) (z cx:Value) (news:List Value):Prop where
 len:news.length=n*sz
 one:∀u∈news,u.oneCell'=true
 kind:(((∃e',P.underlying tx=some (.slice e'))\/P.underlying tx=some .string)/\(∀w',(Builtin.lenOf cx).run P w'= .ok n w')/\∀w',w'.heap=w.heap->(Builtin.firstCells sz n cx).run P w'= .ok news.toArray w')\/
  ((∃k k',P.underlying tx=some (.int k)/\cx= .int k' n)/\news=(Builtin.zeroCells z.cells n).toList/\z.cells.size=sz)
theorem Kh (z:Array Value) {n:Nat} (h:n*z.size=0):Builtin.zeroCells z n= #[]:=by
 simp[Builtin.zeroCells,h,Array.range_zero']
theorem Ki {n:Nat} (h:n<=2^47):IntKind.i64.wrap (n:Int)=n:=by
 rw[IntKind.wrap_i64];omega
theorem run_append_room' {P:Program} {w w':World} {t tx ty e:TypeId} {i:TypeInfo} {z:Value} {n sLen sCap:Nat} {cx:Value} {news:List Value} {base:Option Addr} (ht:P.underlying t=some (.slice e)) (hi:P.info? e=some i) (hz:i.zero=some z)
 (hs:kS P w i.size n tx z cx news) (hn:n<=2^47) (hb:n*i.bytes<=2^47) (hroom:sLen+n<=sCap)
 (h1:∀a,base=some a->(storeCells (a.add (sLen*i.size)) news).run P w= .ok () w') (h2:base=none->w'=w):
 (Builtin.append_ #[t,tx] ty #[.slice base sLen sCap,cx]).run P w= .ok (.slice base (sLen+n) sCap) w':=by
 rcases hs.kind with ⟨hk,hl,hc⟩| ⟨⟨k,k',hk,rfl⟩,hc,hzs⟩
 ·have hc':=hc w rfl
  cases base with
  |none=>
   rw[h2 rfl]
   rcases hk with ⟨e',hk⟩|hk<;>simp[Builtin.append_,run_underlying ht,run_underlying hk,Go.sizeOf,typeInfo,hi,hl,hroom,hc']
  |some a=>
   have hst:=h1 a rfl
   rcases hk with ⟨e',hk⟩|hk<;>simp[Builtin.append_,run_underlying ht,run_underlying hk,Go.sizeOf,typeInfo,hi,hl,hroom,hc',hst]
 ·have hw:=Ki hn
  have hb':¬(281474976710656< (n:Int)*(i.bytes:Int)):=by have:=Int.ofNat_le.2 hb;simp at this;omega
  have hneg:¬((n:Int)<0):=by omega
  by_cases h0:n*i.size=0
  ·have hnews:news=[]:=by rw[hc,Kh _ (by rw[hzs];exact h0)]
   subst hnews
   cases base with
   |none=>
    rw[h2 rfl]
    simp[Builtin.append_,run_underlying ht,run_underlying hk,Go.sizeOf,typeInfo,hi,hroom,asInt,asIntOf,hw,hb',hneg,h0]
   |some a=>
    have hst:=h1 a rfl
    simp[Builtin.append_,run_underlying ht,run_underlying hk,Go.sizeOf,typeInfo,hi,hroom,asInt,asIntOf,hw,hb',hneg,h0,hst]
  ·cases base with
   |none=>
    rw[h2 rfl]
    simp[Builtin.append_,run_underlying ht,run_underlying hk,Go.sizeOf,typeInfo,zeroValue,hi,hz,hroom,asInt,asIntOf,hw,hb',hneg]
   |some a=>
    have hst:=h1 a rfl
    rw[hc] at hst
    simp[Builtin.append_,run_underlying ht,run_underlying hk,Go.sizeOf,typeInfo,zeroValue,hi,hz,hroom,asInt,asIntOf,hw,hb',hneg,h0,hst]
theorem run_append_grow' {P:Program} {w:World} {t tx ty e:TypeId} {i:TypeInfo} {z:Value} {n sLen sCap:Nat} {cx:Value} {olds news:List Value} {base:Option Addr} (ht:P.underlying t=some (.slice e)) (hi:P.info? e=some i) (hz:i.zero=some z)
 (hs:kS P w i.size n tx z cx news) (hold:∀w',w'.heap=w.heap->(Builtin.firstCells i.size sLen (.slice base sLen sCap)).run P w'= .ok olds.toArray w') (hn:sLen+n<=2^47) (hb:(sLen+n)*i.bytes<=2^47) (hroom:sCap<sLen+n):
 (Builtin.append_ #[t,tx] ty #[.slice base sLen sCap,cx]).run P w= .ok (.slice (some ⟨w.heap.size,0,none⟩) (sLen+n) (grownCap w (sLen+n) sCap e))
   (w.drew.alloc (.cells ((olds++news).toArray++Builtin.zeroCells z.cells (grownCap w (sLen+n) sCap e-(sLen+n))) e)):=by
 have hnr:¬(sLen+n<=sCap):=by omega
 have h63:¬(9223372036854775807< ((sLen:Int)+(n:Int))):=by omega
 have h48:¬(281474976710656<Builtin.nextslicecap (sLen+n) sCap*i.bytes):=by have:=growslice_fits (bytes:=i.bytes) hroom (by omega);omega
 have hold':=hold w.drew rfl
 have aes:(olds++news).toArray=olds.toArray++news.toArray:=by simp
 rcases hs.kind with ⟨hk,hl,hc⟩| ⟨⟨k,k',hk,rfl⟩,hc,hzs⟩
 ·have hc':=hc w.drew rfl
  rcases hk with ⟨e',hk⟩|hk<;>
   (simp[Builtin.append_,run_underlying ht,run_underlying hk,Go.sizeOf,typeInfo,zeroValue,hi,hz,hl,hnr,h63,h48,Question.forced,hc',hold',newRow,grownCap]
    congr 2
    apply Array.ext'
    simp[aeC])
 ·have hw:=Ki (n:=n) (by omega)
  have hnb:n*i.bytes<=2^47:=aaI (ae3 _ (by omega)) hb
  have hb':¬(281474976710656< (n:Int)*(i.bytes:Int)):=by have:=Int.ofNat_le.2 hnb;simp at this;omega
  have hneg:¬((n:Int)<0):=by omega
  by_cases h0:n*i.size=0
  ·have hnews:news=[]:=by rw[hc,Kh _ (by rw[hzs];exact h0)]
   subst hnews
   simp[Builtin.append_,run_underlying ht,run_underlying hk,Go.sizeOf,typeInfo,zeroValue,hi,hz,hnr,h63,h48,Question.forced,asInt,asIntOf,hw,hb',hneg,h0,hold',newRow,grownCap]
  ·subst hc
   simp[Builtin.append_,run_underlying ht,run_underlying hk,Go.sizeOf,typeInfo,zeroValue,hi,hz,hnr,h63,h48,Question.forced,asInt,asIntOf,hw,hb',hneg,h0,hold',newRow,grownCap]
   congr 2
   apply Array.ext'
   simp[aeC]
end
end Aq
end
section
namespace Aq
open Go Go.RowKit
section
variable {E:Env} {B0:Nat} {σ:Sig} {K:aB} {w:World} {new:Nat->Prop} {T:Nat->Nat}
theorem Step.imp {new new' σ' K' w'} (h:Step E B0 new σ K w σ' K' w') (hn:∀s,new s->K.A s\/new' s):Step E B0 new' σ K w σ' K' w':=
 ⟨h.ok,h.ext,h.below,h.D,fun s hs=>(h.A s hs).elim .inl (hn s),h.nI,h.kR⟩
theorem Kj {sz:Nat} {l ys:List V} {olds news:List Value} (h:dA K T w sz l olds) (g:dA K T w sz ys news) (hl:olds.length=l.length*sz):dA K T w sz (l++ys) (olds++news):=by
 intro i hi
 by_cases h1:i<l.length
 ·rw[gF h1]
  refine⟨(h i h1).1,fun j hj=>?_⟩
  have:=mul_lt h1 hj
  rw[gF (by omega)]
  exact(h i h1).2 j hj
 ·have h1':l.length<=i:=Nat.not_lt.1 h1
  have h2:i-l.length<ys.length:=by simp at hi;omega
  rw[gG h1']
  refine⟨(g _ h2).1,fun j hj=>?_⟩
  have hm:i*sz=(i-l.length)*sz+l.length*sz:=by rw[<-ae6];congr 1;omega
  rw[gG (by omega),show i*sz+j-olds.length=(i-l.length)*sz+j by omega]
  exact(g _ h2).2 j hj
theorem Ak {sz:Nat} {ys:List V} {news:List Value} (h:dA K T w sz ys news) (hl:news.length=ys.length*sz) (hone:ys.all (fun v=>oneCells v.cells)=true):∀u∈news,u.oneCell'=true:=by
 intro u hu
 obtain⟨q,hq,rfl⟩:=afR.1 hu
 have hsz:0<sz:=by
  rcases Nat.eq_zero_or_pos sz with h0|h0
  ·subst h0;omega
  ·exact h0
 have hi:q/sz<ys.length:=Nat.div_lt_of_lt_mul (by rw[afk];omega)
 have hj:=Nat.mod_lt q hsz
 obtain⟨h1,h2⟩:=h _ hi
 have hr:=h2 _ hj
 rw[afk,Nat.div_add_mod,cB hq] at hr
 simp only[aeP,oneCells] at hone
 have h3:=hone _ (afc hi)
 rw[cB hi] at h1 hr
 have h4:=h3 _ (afc (show q% sz<_ by omega))
 rw[cB (by omega)] at hr
 simpa using (JQ hr h4).1
theorem SN (h:aC E B0 σ K w) {ag:Bool} {sz n:Nat} {tx e:TypeId} {z:V} {y:V} {cy cz:Value} {ys:List V} {zeros:Bool} (hy:Rel K σ.top w y cy) (hz:Rel K σ.top w z cz) (hraw:notRaw z=true) (hzl:z.cells.length=sz) (hag:(ag||sz==1)=true)
 (hk:zeros=true->∃k,E.P.underlying tx=some (.int k)) (hk':zeros=false->(∃e',E.P.underlying tx=some (.slice e'))\/E.P.underlying tx=some .string) (hzi:zeros=kQ y)
 (hv:dY σ ag sz z y=some ys) (hone:ys.all (fun v=>oneCells v.cells)=true) (hn:n=ys.length):∃news,kS E.P w sz n tx cz cy news/\dA K σ.top w sz ys news:=by
 subst hn
 let _:=e
 have fin:∀cells,Src E.P w sz ys.length cy cells->(∀w',(Builtin.lenOf cy).run E.P w'= .ok ys.length w')->zeros=false->dA K σ.top w sz ys cells->∃news,kS E.P w sz ys.length tx cz cy news/\dA K σ.top w sz ys news:=
  fun cells hs hl SQ hr=>⟨cells,⟨hs.1,Ak hr hs.1 hone,.inl ⟨hk' SQ,hl,hs.2⟩⟩,hr⟩
 cases y with
 |int k m=>
  simp only[dY] at hv
  split at hv
  ·rename_i hm
   simp only[iE] at hv;subst hv
   cases hy
   obtain⟨k',hk0⟩:=hk hzi
   have hr:=wG hz hraw hzl m.toNat
   have hcs:cz.cells.size=sz:=by rw[<-(mq hz hraw).1,hzl]
   have hzc:Builtin.zeroCells cz.cells m.toNat=(Array.range (m.toNat*sz)).map fun i=>cz.cells[i% cz.cells.size]! :=by unfold Builtin.zeroCells;rw[hcs]
   have hlen:(List.replicate m.toNat z).length=m.toNat:=List.length_replicate
   have hrc:dA K σ.top w sz (List.replicate m.toNat z) (Builtin.zeroCells cz.cells m.toNat).toList:=by
    intro i hi
    rw[hlen] at hi
    have hg:(List.replicate m.toNat z).getD i undefV=z:=by simp[List.getD,hi]
    rw[hg]
    refine⟨hzl,fun j hj=>?_⟩
    have hq:=mul_lt hi hj
    have:=hr.2 (i*sz+j) (by simp[hzl];exact hq)
    have hm:(i*sz+j)% sz=j:=by rw[afk,Nat.mul_add_mod,afB hj]
    rw[Ai z.cells sz hzl (by omega) _ _ hq,hm] at this
    rw[hzc,wE]
    exact this
   have hnl:(Builtin.zeroCells cz.cells m.toNat).toList.length=m.toNat*sz:=by rw[hzc];simp
   refine⟨_,⟨by rw[hlen];exact hnl,Ak hrc (by rw[hlen];exact hnl) hone,.inr ⟨⟨k',k,hk0,?_⟩,by rw[hlen],hcs⟩⟩,hrc⟩
   rw[hlen,afE hm.1]
  ·simp at hv
 |lst c l=>
  simp only[dY] at hv
  split at hv
  ·rename_i hs
   simp only[iE] at hv;subst hv
   obtain⟨cells,h1,h2⟩:=SI (E:=E) hy hs
   refine fin cells h1 (fun w'=>?_) hzi h2
   cases hy<;>rfl
  ·simp at hv
 |str s=>
  simp only[dY] at hv
  split at hv
  ·rename_i hs
   simp only[iE] at hv;subst hv;subst hs
   obtain⟨cells,h1,h2⟩:=Kg (E:=E) (e:=e) hy
   refine fin cells h1 (fun w'=>?_) hzi h2
   cases hy with|str _ b hb=>
   subst hb
   simp[Builtin.lenOf]
  ·simp at hv
 |vw loc s off len cap aA mE=>
  simp only[dY] at hv
  split at hv
  ·simp at hv
  ·rename_i he
   have he:aA=sz:=by simpa using he
   subst he
   simp only[iR] at hv
   obtain⟨cs,hcs,hv⟩:=hv
   split at hv
   ·rename_i hc
    simp only[iE] at hv;subst hv
    obtain⟨cells,h1,h2⟩:=SL h hy hcs hc.1 hag hc.2
    refine fin cells h1 (fun w'=>?_) hzi h2
    rw[ab3,iZ]
    cases hy<;>rfl
   ·simp at hv
 |_=>simp[dY] at hv
theorem Step.Kk {E B0 σ K w} (h:aC E B0 σ K w) (s T' b lo:Nat) (hs:¬K.A s):
 Step E B0 (· =s) σ K w (σ.aI s T') {K with A:=fun x=>K.A x\/x=s,ob:=upd K.ob s b,lo:=upd K.lo s lo,hi:=upd K.hi s lo} w:=by
 have hne:∀x,K.A x->x≠s:=fun x hx e=>hs (e▸hx)
 have e:Ext K σ.top w {K with A:=fun x=>K.A x\/x=s,ob:=upd K.ob s b,lo:=upd K.lo s lo,hi:=upd K.hi s lo} (σ.aI s T').top w:=
  ⟨fun _ h=>⟨.inl h,rfl,rfl,rfl⟩,fun x hx=>.inl ⟨upd_ne _ _ (hne x hx),upd_ne _ _ (hne x hx),upd_ne _ _ (hne x hx),upd_ne _ _ (hne x hx)⟩,fun b i hi=>⟨hi,rfl⟩,fun b hb=>⟨hb,rfl⟩⟩
 refine⟨?_,e,.refl _ _,fun b hb=>hb,fun _ h=>h,fun b o hi=>.inl hi,fun _ h=>.inl h⟩
 refine⟨fun loc x ob hx=>?_,fun x hx hlt=>?_,h.I,h.IM,fun l r hl=>?_,fun g cs hg=>(h.glob g cs hg).ext e,h.rb,h.D⟩
 ·obtain⟨a1,a2,a3⟩:=h.obj loc x ob hx
  exact⟨.inl a1,a2.ext e a1 (fun _=>rfl),a3⟩
 ·by_cases hxs:x=s
  ·subst hxs;simp only[upd_same] at hlt;omega
  ·simp only[upd_ne _ _ hxs] at hlt
   have:=h.own x (hx.resolve_right hxs) hlt
   exact⟨by simpa only[upd_ne _ _ hxs] using this.1,by simpa only[upd_ne _ _ hxs] using this.2.1,
    fun o p q=>by simpa only[upd_ne _ _ hxs] using this.2.2 o (by simpa only[upd_ne _ _ hxs] using p) (by simpa only[upd_ne _ _ hxs] using q)⟩
 ·obtain⟨a1,a2⟩:=h.loop l r hl
  exact⟨.inl a1,a2.ext e a1 rfl rfl⟩
theorem aC.drew (h:aC E B0 σ K w):aC E B0 σ K w.drew:=h.same rfl
theorem Step.draw (h:aC E B0 σ K w):Step E B0 new σ K w σ K w.drew:=Step.same h rfl rfl rfl rfl
theorem Kl {olds news:List Value} {zs:Array Value} {q:Nat} (hq:q< (olds++news).length):((olds++news).toArray++zs).getD q undef=(olds++news).getD q undef:=by
 have:q< ((olds++news).toArray++zs).size:=by simp at hq⊢;omega
 have hl:q< (olds++news).toArray.size:=by simpa using hq
 simp only[Array.getD,this,dif_pos]
 show ((olds++news).toArray++zs)[q]=_
 rw[Array.getElem_append_left hl,cB hq]
 simp
theorem Am (h:aC E B0 σ K w) (hB:B0<=w.heap.size) {t tx ty e:TypeId} {i:TypeInfo} {z:Value} {n sLen sCap s:Nat} {cx:Value} {olds news:List Value} {base:Option Addr} {l ys:List V} (ht:E.P.underlying t=some (.slice e)) (hi:E.P.info? e=some i) (hz:i.zero=some z)
 (hzs:z.cells.size=i.size) (hl:sLen=l.length) (hn:n=ys.length)
 (hs:kS E.P w i.size n tx z cx news) (hold:∀w',w'.heap=w.heap->(Builtin.firstCells i.size sLen (.slice base sLen sCap)).run E.P w'= .ok olds.toArray w') (hol:olds.length=sLen*i.size) (h47:sLen+n<=2^47) (hb:(sLen+n)*i.bytes<=2^47) (hroom:sCap<sLen+n)
 (rl:dA K σ.top w i.size l olds) (ry:dA K σ.top w i.size ys news) (hst:¬K.A s\/σ.top s<sLen+n):
 Done E B0 (· =s) σ K w (Builtin.append_ #[t,tx] ty #[.slice base sLen sCap,cx]) (.lst (.own i.size s) (l++ys)) (σ.aI s (sLen+n)):=by
 have hrun:=run_append_grow' (ty:=ty) ht hi hz hs hold h47 hb hroom
 have hge:=grownCap_ge w (sLen+n) sCap e
 generalize grownCap w (sLen+n) sCap e=nc at hrun hge
 have hlen:(olds++news).length=(sLen+n)*i.size:=by rw[aaG,hol,hs.len,ae6]
 have hvs:((olds++news).toArray++Builtin.zeroCells z.cells (nc-(sLen+n))).size=nc*i.size:=by
  rw[Array.size_append]
  have:(olds++news).toArray.size=(sLen+n)*i.size:=by simpa using hlen
  rw[this]
  simp only[Builtin.zeroCells,Array.size_map,Array.size_range,hzs]
  rw[<-ae6];congr 1;omega
 have hlo:(sLen+n)*i.size<=((olds++news).toArray++Builtin.zeroCells z.cells (nc-(sLen+n))).size:=by rw[hvs];exact ae3 _ hge
 have hstep:=(Step.draw (new:=(· =s)) h).trans (Step.JL (w:=w.drew) h.drew hB s (sLen+n) hst ((olds++news).toArray++Builtin.zeroCells z.cells (nc-(sLen+n))) e ((sLen+n)*i.size) hlo)
 have hll:(l++ys).length=sLen+n:=by rw[aaG,hl,hn]
 have rc:=(Kj rl ry (by rw[hol,hl])).ext hstep.ext
 refine⟨_,_,_,hrun,?_,hstep⟩
 have key:Rel (K.nL s w.drew.heap.size ((sLen+n)*i.size) ((olds++news).toArray++Builtin.zeroCells z.cells (nc-(sLen+n))).size) (σ.aI s (sLen+n)).top
  (w.drew.alloc (.cells ((olds++news).toArray++Builtin.zeroCells z.cells (nc-(sLen+n))) e)) (.lst (.own i.size s) (l++ys)) (.slice (some (at_ w.heap.size 0)) (l++ys).length nc):=by
  refine .lst _ _ w.heap.size 0 i.size nc (fun p q=>(olds++news).getD (p*i.size+q) undef) (by omega) (fun p hp=>(rc p hp).1) (fun p q hp hq=>?_) (fun p q hp hq=>(rc p hp).2 q hq) ?_
  ·have hpq:=mul_lt (hll▸hp) hq
   refine⟨?_,.inr ⟨rfl,by omega⟩⟩
   have:=wu (w:=w.drew) (vals:=(olds++news).toArray++Builtin.zeroCells z.cells (nc-(sLen+n))) (t:=e) (fz:=(0,0)) (i:=p*i.size+q) (by omega)
   rw[Kl (by omega)] at this
   rw[ae7]
   exact this
  ·refine⟨rfl,.inr rfl,?_,fun _=>⟨?_,?_,?_⟩⟩
   ·show _<=upd σ.top s _ s
    rw[upd_same,hll];exact iP _
   ·show upd K.ob s _ s=_
    rw[upd_same];rfl
   ·show upd K.lo s _ s=_
    rw[upd_same,hll,ae7]
   ·show upd K.hi s _ s=_
    rw[upd_same,hvs,ae7]
 rw[hll] at key
 exact key
theorem SS (b o:Nat) (v:Value) (w:World):Only b w (w.setCell ⟨b,o,none⟩ v):=
 ⟨rfl,rfl,rfl,by simp[World.setCell],fun k hk _=>by simp[World.setCell,Array.getElem?_modify,Ne.symm hk]⟩
theorem Only.trans {b:Nat} {w w1 w2:World} (h:Only b w w1) (g:Only b w1 w2):Only b w w2:=
 ⟨g.os.trans h.os,g.tape.trans h.tape,g.output.trans h.output,aaI h.size g.size,fun k hk hl=>(g.block k hk (aeD hl h.size)).trans (h.block k hk hl)⟩
theorem Km (b:Nat):∀(vs:List Value) (o:Nat) (w:World),Only b w (w.setCells b o vs)
 | [],_,_=>⟨rfl,rfl,rfl,iP _,fun _ _ _=>rfl⟩
 |v::r,o,w=>(SS b o v w).trans (Km b r (o+1) _)
theorem SV (h:aC E B0 σ K w) (hB:B0<=w.heap.size) {t tx ty e:TypeId} {i:TypeInfo} {z:Value} {b o cap s:Nat} {cx:Value} {news:List Value} {l ys:List V} (ht:E.P.underlying t=some (.slice e)) (hi:E.P.info? e=some i) (hz:i.zero=some z)
 (hsz:0<i.size) (hys:ys≠[]) (hx:Rel K σ.top w (.lst (.own i.size s) l) (.slice (some (at_ b o)) l.length cap)) (hhead:eF i.size l=true)
 (hs:kS E.P w i.size ys.length tx z cx news) (h47:ys.length<=2^47) (hb:ys.length*i.bytes<=2^47) (hroom:l.length+ys.length<=cap)
 (ry:dA K σ.top w i.size ys news) (hT:σ.top s=l.length):
 Done E B0 new σ K w (Builtin.append_ #[t,tx] ty #[.slice (some (at_ b o)) l.length cap,cx]) (.lst (.own i.size s) (l++ys)) (σ.aI s (l.length+ys.length)):=by
 have hyl:0<ys.length:=afo.2 hys
 have hnl:0<news.length:=by rw[hs.len];exact Nat.mul_pos hyl hsz
 generalize hgl:l.length=ln at hx
 cases hx with
 |aT _ a ha hc=>omega
 |lst _ _ _ _ n _ val hle hn hcell hrel hc=>
 obtain⟨hc1,hA,_,hc2⟩:=hc
 obtain⟨c1,c2,c3⟩:=hc2 hT.symm
 subst hc1
 have hsum:(l.length+ys.length)*i.size=l.length*i.size+ys.length*i.size:=ae6 _ _ _
 have aeu:=ae3 i.size hroom
 have hlt:K.lo s<K.hi s:=by rw[c2,c3];have:=hs.len;omega
 obtain⟨o1,o2,o3⟩:=h.own s hA hlt
 have Ao:∀j,j<news.length->(∃v,w.cell? (at_ b (o+l.length*i.size+j))=some v)/\w.frozen? (at_ b (o+l.length*i.size+j))=false:=by
  intro j hj
  have:=o3 (o+l.length*i.size+j) (by omega) (by have:=hs.len;omega)
  rw[c1] at this
  exact this.2
 have hst:=run_storeCells_cells (P:=E.P) b (o+l.length*i.size) news 0 w (fun j hj=>by
  obtain⟨v,hv⟩:=(Ao j hj).1
  rw[Nat.add_zero,hv];rfl) (fun j hj=>by rw[Nat.add_zero];exact(Ao j hj).2) hs.one
 simp only[Nat.add_zero] at hst
 have hrun:=run_append_room' (ty:=ty) (sLen:=l.length) (base:=some (at_ b o)) (w':=w.setCells b (o+l.length*i.size) news) ht hi hz hs h47 hb hroom (fun a ha=>by
  simp only[iE] at ha;subst ha
  rw[addr_add];exact hst) (fun hn=>by cases hn)
 have hstep:=Step.pJ (new:=new) h hB (s:=s) (n:=news.length) (T':=l.length+ys.length) (w':=w.setCells b (o+l.length*i.size) news) hA (by omega) hnl (by rw[c2,c3,hs.len];omega) (by rw[c1];exact Km b news _ w)
  (fun q h1 h2=>by
    rw[c1]
    have:=World.cell?_setCells_in b news (o+l.length*i.size) w (fun j hj=>by obtain⟨v,hv⟩:=(Ao j hj).1;rw[hv];rfl) (q-(o+l.length*i.size)) (by omega)
    rw[show o+l.length*i.size+(q-(o+l.length*i.size))=q by omega] at this
    exact⟨_,this⟩)
  (fun q hq=>by
    rw[c1]
    exact World.cell?_setCells_out b news _ w _ (fun _ _=>by show q<_\/_<=q;omega))
  (fun q=>World.frozen?_setCells b news _ w _)
 refine⟨_,_,_,hrun,?_,hstep⟩
 have hll:(l++ys).length=l.length+ys.length:=aaG
 have key:Rel (K.pJ s news.length) (σ.aI s (l.length+ys.length)).top (w.setCells b (o+l.length*i.size) news) (.lst (.own i.size s) (l++ys)) (.slice (some (at_ b o)) (l++ys).length cap):=by
  refine .lst _ _ b o i.size cap (fun p q=>if p<l.length then val p q else news.getD ((p-l.length)*i.size+q) undef) (by omega) (fun p hp=>?_) (fun p q hp hq=>?_) (fun p q hp hq=>?_) ?_
  ·by_cases h1:p<l.length
   ·rw[gF h1];exact hn p h1
   ·rw[gG (Nat.not_lt.1 h1)];exact(ry _ (by omega)).1
  ·by_cases h1:p<l.length
   ·obtain⟨g1,g2⟩:=hcell p q h1 hq
    obtain⟨e1,e2⟩:=hstep.ext.I _ _ g2
    simp only[h1,if_true]
    exact⟨e2.trans g1,e1⟩
   ·have h2:p-l.length<ys.length:=by omega
    have hpq:=mul_lt h2 hq
    have hm:p*i.size=(p-l.length)*i.size+l.length*i.size:=by rw[<-ae6];congr 1;omega
    simp only[h1,if_false]
    refine⟨?_,.inr ⟨c1.symm,by omega,by have:=hs.len;omega⟩⟩
    have hlt':(p-l.length)*i.size+q<news.length:=by rw[hs.len];exact hpq
    have:=World.cell?_setCells_in b news (o+l.length*i.size) w (fun j hj=>by obtain⟨v,hv⟩:=(Ao j hj).1;rw[hv];rfl) ((p-l.length)*i.size+q) hlt'
    rw[cB hlt',<-this]
    congr 2;omega
  ·by_cases h1:p<l.length
   ·rw[gF h1]
    simp only[h1,if_true]
    exact(hrel p q h1 hq).ext hstep.ext
   ·rw[gG (Nat.not_lt.1 h1)]
    simp only[h1,if_false]
    exact((ry _ (by omega)).2 q hq).ext hstep.ext
  ·refine⟨rfl,hA,?_,fun _=>⟨c1,?_,?_⟩⟩
   ·show _<=upd σ.top s _ s
    rw[upd_same,hll];exact iP _
   ·show upd K.lo s _ s=_
    rw[upd_same,hll,c2,hs.len];omega
   ·exact c3
 rw[hll] at key
 exact key
end
end Aq
end
section
namespace Aq
open Go Go.RowKit
section
variable {E:Env} {B0:Nat} {σ:Sig} {K:aB} {w:World} {new:Nat->Prop} {T:Nat->Nat}
theorem rP {c:Cap} {l:List V} {cx:Value} {sz:Nat} (hx:Rel K T w (.lst c l) cx) (hs:eF sz l=true) (hc:∀n s,c= .own n s->n=sz):
 (∃a,cx= .slice a 0 0/\(c= .nil->a=none)/\l=[]/\vZ K T c)\/∃(b o cap:Nat) (val:Nat->Nat->Value),cx= .slice (some (at_ b o)) l.length cap/\l.length<=cap/\(∀i,i<l.length->(l.getD i undefV).cells.length=sz)/\
   (∀i j,i<l.length->j<sz->w.cell? (at_ b (o+i*sz+j))=some (val i j)/\K.I b (o+i*sz+j))/\
   (∀i j,i<l.length->j<sz->Rel K T w ((l.getD i undefV).cells.getD j undefV) (val i j))/\iA K T c sz b o l.length cap:=by
 cases hx with
 |aT _ a ha hcn=>exact .inl ⟨a,rfl,ha,rfl,hcn⟩
 |lst _ _ b o n cap val hle hn hcell hrel hcap=>
  right
  by_cases h0:l=[]
  ·subst h0
   refine⟨b,o,cap,val,rfl,hle,fun i hi=>absurd hi (ab2 i),fun i j hi=>absurd hi (ab2 i),fun i j hi=>absurd hi (ab2 i),?_⟩
   cases c with
   |own n' s=>
    have h1:=hc n' s rfl
    have h2:=hcap.1
    have:n=sz:=by omega
    rw[<-this];exact hcap
   |sh=>trivial
   |full=>exact hcap
   |nil=>exact hcap
  ·obtain rfl:=ED hs hn (afo.2 h0)
   exact⟨b,o,cap,val,rfl,hle,hn,hcell,hrel,hcap⟩
theorem Kn {P:Program} {e:TypeId} {sz bs:Nat} {z:V} (h1:szT P e=some sz) (h2:bytesT P e=some bs) (h3:zeroT P e=some z):∃i cz,P.info? e=some i/\i.size=sz/\i.bytes=bs/\i.zero=some cz/\ofValue cz=some z:=by
 unfold szT at h1;unfold bytesT at h2;unfold zeroT at h3
 simp only[aat,iR] at h1 h2 h3
 obtain⟨i,hi,e1⟩:=h1
 obtain⟨i',hi',e2⟩:=h2
 obtain⟨cz,⟨i'',Ap,e3⟩,e4⟩:=h3
 rw[hi] at hi' Ap
 cases hi';cases Ap
 exact⟨i,cz,hi,e1,e2,e3,e4⟩
theorem rQ {sz n cap:Nat} {b o:Nat} {val:Nat->Nat->Value} (hcell:∀i j,i<n->j<sz->w.cell? (at_ b (o+i*sz+j))=some (val i j)) (w':World) (hw:w'.heap=w.heap):
 (Builtin.firstCells sz n (.slice (some (at_ b o)) n cap)).run E.P w'= .ok ((List.range (n*sz)).map fun q=>val (q/sz) (q% sz)).toArray w':=by
 refine run_firstCells_some (P:=E.P) w' sz n (at_ b o) n cap _ (by simp) (fun j v hj=>?_)
 have hjl:j<n*sz:=by
  have:=(afn.1 hj).1
  simpa using this
 have hn0:0<sz:=by
  rcases Nat.eq_zero_or_pos sz with h|h
  ·subst h;simp at hjl
  ·exact h
 simp[hjl] at hj
 subst hj
 rw[addr_add]
 have:=hcell (j/sz) (j% sz) (Nat.div_lt_of_lt_mul (by rw[afk];exact hjl)) (Nat.mod_lt _ hn0)
 rw[cell_of_heap (w:=w) (by rw[hw])]
 rwa[ae9,afk,Nat.div_add_mod] at this
theorem Ar {l:List V} {sz:Nat} {val:Nat->Nat->Value} (hn:∀i,i<l.length->(l.getD i undefV).cells.length=sz) (hrel:∀i j,i<l.length->j<sz->Rel K T w ((l.getD i undefV).cells.getD j undefV) (val i j)):
 dA K T w sz l ((List.range (l.length*sz)).map fun q=>val (q/sz) (q% sz)):=
 fun i hi=>⟨hn i hi,fun j hj=>by rw[Ke hi hj];exact hrel i j hi hj⟩
theorem nN {t tx ty e:TypeId} {i:TypeInfo} {z cx:Value} {news:List Value} {n sLen sCap:Nat} {base:Option Addr} (ht:E.P.underlying t=some (.slice e)) (hi:E.P.info? e=some i) (hz:i.zero=some z)
 (hs:kS E.P w i.size n tx z cx news) (hn:n=0) (hle:sLen<=sCap):(Builtin.append_ #[t,tx] ty #[.slice base sLen sCap,cx]).run E.P w= .ok (.slice base sLen sCap) w:=by
 subst hn
 have h0:news=[]:=afa (by rw[hs.len];simp)
 subst h0
 exact run_append_room' (w':=w) (base:=base) ht hi hz hs (by omega) (by simp) (by omega) (fun a _=>rfl) (fun _=>rfl)
theorem SX (s n:Nat) (h:σ.top s=n):σ.aI s n=σ:=by
 unfold Sig.aI
 have:upd σ.top s n=σ.top:=by
  funext x
  unfold upd
  split
  ·rename_i hx;rw[hx,h]
  ·rfl
 rw[this]
theorem SY (h:aC E B0 σ K w) (hB:B0<=w.heap.size) {t tx ty e:TypeId} {i:TypeInfo} {z:Value} {st:Nat} {c:Cap} {l ys:List V} {cx cy:Value} {news:List Value} {v:V} {σ':Sig} (ht:E.P.underlying t=some (.slice e)) (hi:E.P.info? e=some i) (hz:i.zero=some z)
 (hzs:z.cells.size=i.size) (hsz:0<i.size) (hst:¬K.A st) (hx:Rel K σ.top w (.lst c l) cx) (hs:kS E.P w i.size ys.length tx z cy news) (ry:dA K σ.top w i.size ys news)
 (h47:l.length+ys.length<=2^47) (hb:(l.length+ys.length)*i.bytes<=2^47) (hhead:eF i.size l=true)
 (hv:(match c with
   |.own n s=>if n=i.size/\σ.top s=l.length then some (.lst (.own n s) (l++ys),σ.aI s (l.length+ys.length)) else none
   |.nil|.full=>some (.lst (.own i.size st) (l++ys),σ.aI st (l.length+ys.length))
   |.sh=>none)=some (v,σ')):
 Done E B0 (· =st) σ K w (Builtin.append_ #[t,tx] ty #[cx,cy]) v σ':=by
 have hb':ys.length*i.bytes<=2^47:=aaI (ae3 _ (Nat.le_add_left _ _)) hb
 have imp:∀{s:Nat} {m:Sem Value} {v:V} {σ':Sig},K.A s->Done E B0 (· =s) σ K w m v σ'->Done E B0 (· =st) σ K w m v σ':=by
  rintro s m v σ' hA ⟨a,b,c,d,e,f⟩
  exact⟨a,b,c,d,e,f.imp fun x hx=>.inl (hx▸hA)⟩
 have fresh:∀cx,Rel K σ.top w (.lst .full l) cx\/(∃a,cx= .slice a 0 0/\l=[])->Done E B0 (· =st) σ K w (Builtin.append_ #[t,tx] ty #[cx,cy]) (.lst (.own i.size st) (l++ys)) (σ.aI st (l.length+ys.length)):=by
  intro cx hx
  have hx':(∃a,cx= .slice a 0 0/\l=[])\/∃(b o:Nat) (val:Nat->Nat->Value),cx= .slice (some (at_ b o)) l.length l.length/\(∀p,p<l.length->(l.getD p undefV).cells.length=i.size)/\
   (∀p j,p<l.length->j<i.size->w.cell? (at_ b (o+p*i.size+j))=some (val p j)/\K.I b (o+p*i.size+j))/\
   (∀p j,p<l.length->j<i.size->Rel K σ.top w ((l.getD p undefV).cells.getD j undefV) (val p j)):=by
   rcases hx with hx|hx
   ·rcases rP hx hhead (fun n s hh=>by cases hh) with ⟨a,h1,_,h2,_⟩| ⟨b,o,cap,val,h1,h2,h3,h4,h5,h6⟩
    ·exact .inl ⟨a,h1,h2⟩
    ·have h6:cap=l.length:=h6
     subst h6
     exact .inr ⟨b,o,val,h1,h3,h4,h5⟩
   ·exact .inl hx
  rcases hx' with ⟨a,rfl,rfl⟩| ⟨b,o,val,rfl,h3,h4,h5⟩
  ·by_cases hys:ys=[]
   ·subst hys
    have hrun:=nN (ty:=ty) (base:=a) (sLen:=0) (sCap:=0) ht hi hz hs rfl (iP _)
    have hstep:=Step.Kk h st 0 0 0 hst
    refine⟨_,_,_,hrun,?_,hstep⟩
    exact .aT _ a (fun h=>by cases h) ⟨Or.inr rfl,fun _=>by simp only[upd_same]⟩
   ·have hl:0<ys.length:=afo.2 hys
    have:=Am (ty:=ty) (base:=a) (olds:=[]) (l:=[]) (sLen:=0) (sCap:=0) h hB ht hi hz hzs rfl rfl hs (fun w' _=>wH w' i.size a) (by simp) (by simpa using h47) (by simpa using hb) (by omega) (fun p hp=>absurd hp (ab2 p)) ry (.inl hst)
    simpa using this
  ·by_cases hys:ys=[]
   ·subst hys
    have hrun:=nN (ty:=ty) (base:=some (at_ b o)) (sLen:=l.length) (sCap:=l.length) ht hi hz hs rfl (iP _)
    have hstep:=Step.Kk h st (l.length+0) b (o+l.length*i.size) hst
    refine⟨_,_,_,hrun,?_,hstep⟩
    rw[aeX]
    refine .lst _ _ b o i.size l.length val (iP _) h3 (fun p j hp hj=>h4 p j hp hj) (fun p j hp hj=>(h5 p j hp hj).ext hstep.ext) ⟨rfl,.inr rfl,?_,fun _=>⟨?_,?_,?_⟩⟩
    ·show _<=upd σ.top st _ st
     rw[upd_same];exact iP _
    ·exact upd_same _ _ _
    ·exact upd_same _ _ _
    ·exact upd_same _ _ _
   ·have hl:0<ys.length:=afo.2 hys
    exact Am (ty:=ty) (base:=some (at_ b o)) h hB ht hi hz hzs rfl rfl hs (fun w' hw=>rQ (fun p j hp hj=>(h4 p j hp hj).1) w' hw) (by simp) h47 hb (by omega) (Ar h3 h5) ry (.inl hst)
 cases c with
 |sh=>simp at hv
 |nil=>
  simp only[iE,mF] at hv
  obtain⟨rfl,rfl⟩:=hv
  refine fresh cx (.inr ?_)
  cases hx with
  |aT _ a ha _=>exact⟨a,rfl,rfl⟩
  |lst _ _ _ _ _ _ _ _ _ _ _ hc=>exact hc.elim
 |full=>
  simp only[iE,mF] at hv
  obtain⟨rfl,rfl⟩:=hv
  exact fresh cx (.inl hx)
 |own n s=>
  simp only at hv
  split at hv
  ·rename_i hc
   obtain⟨rfl,hT⟩:=hc
   simp only[iE,mF] at hv
   obtain⟨rfl,rfl⟩:=hv
   by_cases hys:ys=[]
   ·subst hys
    have e1:σ.aI s (l.length+([]:List V).length)=σ:=SX s _ hT
    rw[e1,aeX]
    rcases rP hx hhead (fun n s hh=>by cases hh;rfl) with ⟨a,rfl,_,rfl,_⟩| ⟨b,o,cap,val,rfl,h2,_⟩
    ·exact⟨_,_,_,nN (ty:=ty) (base:=a) (sLen:=0) (sCap:=0) ht hi hz hs rfl (iP _),hx,.refl h⟩
    ·exact⟨_,_,_,nN (ty:=ty) (base:=some (at_ b o)) ht hi hz hs rfl h2,hx,.refl h⟩
   ·have hl:0<ys.length:=afo.2 hys
    rcases rP hx hhead (fun n s hh=>by cases hh;rfl) with ⟨a,rfl,_,rfl,hcn⟩| ⟨b,o,cap,val,rfl,h2,h3,h4,h5,h6⟩
    ·have:=Am (ty:=ty) (base:=a) (olds:=[]) (l:=[]) (sLen:=0) (sCap:=0) (s:=s) h hB ht hi hz hzs rfl rfl hs (fun w' _=>wH w' i.size a) (by simp) (by simpa using h47) (by simpa using hb) (by omega) (fun p hp=>absurd hp (ab2 p)) ry (.inr (by simp at hT;omega))
     simpa using imp hcn.1 this
    ·by_cases hr:l.length+ys.length<=cap
     ·exact SV (ty:=ty) h hB ht hi hz hsz hys hx hhead hs (by omega) hb' hr ry hT
     ·exact imp h6.2.1 (Am (ty:=ty) (base:=some (at_ b o)) (s:=s) h hB ht hi hz hzs rfl rfl hs (fun w' hw=>rQ (fun p j hp hj=>(h4 p j hp hj).1) w' hw) (by simp) h47 hb (by omega) (Ar h3 h5) ry (.inr (by omega)))
  ·simp at hv
end
end Aq
end
section
namespace Aq
open Go Go.RowKit
section
variable {E:Env} {B0:Nat} {σ:Sig} {K:aB} {w:World} {new:Nat->Prop} {T:Nat->Nat}
theorem Step.aX (h:aC E B0 σ K w) (loc:Loc):Step E B0 new σ K w (σ.aX loc) K w:=by
 refine⟨⟨fun loc' s ob hs=>?_,h.own,h.I,h.IM,h.loop,h.glob,h.rb,h.D⟩,.refl _ _ _,.refl _ _,fun _ h=>h,fun _ h=>.inl h,fun _ _ h=>.inl h,fun _ h=>.inl h⟩
 by_cases hl:loc'=loc
 ·subst hl;simp[Sig.aX,upd_same] at hs
 ·simp only[Sig.aX,upd_ne _ _ hl] at hs
  exact h.obj loc' s ob hs
theorem Step.S9 (h:aC E B0 σ K w) (loc:Loc) {st:Nat} (hst:¬K.A st):
 Step E B0 (· =st) σ K w (σ.setObj loc st (.cells [])) {K with A:=fun x=>K.A x\/x=st,sz:=upd K.sz st 0,lo:=upd K.lo st 0,hi:=upd K.hi st 0} w:=by
 have hne:∀x,K.A x->x≠st:=fun x hx e=>hst (e▸hx)
 have e:Ext K σ.top w {K with A:=fun x=>K.A x\/x=st,sz:=upd K.sz st 0,lo:=upd K.lo st 0,hi:=upd K.hi st 0} σ.top w:=
  ⟨fun x hx=>⟨.inl hx,rfl,rfl,upd_ne _ _ (hne x hx)⟩,fun x hx=>.inl ⟨rfl,rfl,upd_ne _ _ (hne x hx),upd_ne _ _ (hne x hx)⟩,fun b i hi=>⟨hi,rfl⟩,fun b hb=>⟨hb,rfl⟩⟩
 refine⟨?_,e,.refl _ _,fun b hb=>hb,fun _ h=>h,fun b o hi=>.inl hi,fun _ h=>.inl h⟩
 refine⟨fun loc' x ob hx=>?_,fun x hx hlt=>?_,h.I,h.IM,fun l r hl=>?_,fun g cs hg=>(h.glob g cs hg).ext e,h.rb,h.D⟩
 ·by_cases hl:loc'=loc
  ·subst hl
   simp only[Sig.setObj,upd_same,iE,mF] at hx
   obtain⟨rfl,rfl⟩:=hx
   exact⟨.inr rfl,⟨fun _=>upd_same _ _ _,fun hn=>absurd rfl hn⟩,fun hr=>hr.elim⟩
  ·simp only[Sig.setObj,upd_ne _ _ hl] at hx
   obtain⟨a1,a2,a3⟩:=h.obj loc' x ob hx
   exact⟨.inl a1,a2.ext e a1 (fun _=>rfl),a3⟩
 ·by_cases hxs:x=st
  ·subst hxs;simp only[upd_same] at hlt;omega
  ·simp only[upd_ne _ _ hxs] at hlt
   have:=h.own x (hx.resolve_right hxs) hlt
   exact⟨this.1,this.2.1,fun o p q=>this.2.2 o (by simpa only[upd_ne _ _ hxs] using p) (by simpa only[upd_ne _ _ hxs] using q)⟩
 ·obtain⟨a1,a2⟩:=h.loop l r hl
  exact⟨.inl a1,a2.ext e a1 rfl rfl⟩
def jH (K:aB) (T:Nat->Nat) (w:World) (fl:List V) (cells:List Value):Prop:=fl.length=cells.length/\∀q,q<fl.length->Rel K T w (fl.getD q undefV) (cells.getD q undef)
theorem jH.ext {K' T' w'} {fl:List V} {cells:List Value} (h:jH K T w fl cells) (e:Ext K T w K' T' w'):jH K' T' w' fl cells:=⟨h.1,fun q hq=>(h.2 q hq).ext e⟩
theorem jH.append {a b:List V} {x y:List Value} (h:jH K T w a x) (g:jH K T w b y):jH K T w (a++b) (x++y):=by
 refine⟨by simp[h.1,g.1],fun q hq=>?_⟩
 by_cases h1:q<a.length
 ·rw[gF h1,gF (by have:=h.1;omega)];exact h.2 q h1
 ·rw[gG (by omega),gG (by have:=h.1;omega),<-h.1]
  exact g.2 _ (by simp at hq;omega)
theorem rU {sz:Nat}:∀{l:List V} {cells:List Value},dA K T w sz l cells->cells.length=l.length*sz->jH K T w (l.flatMap V.cells) cells
 | [],cells,_,hl=>by
   have:cells=[]:=afa (by simpa using hl)
   subst this
   exact⟨rfl,fun q hq=>absurd hq (ab2 q)⟩
 |v::l,cells,h,hl=>by
  have hs:(l.length+1)*sz=l.length*sz+sz:=afe _ _
  rw[List.length_cons,hs] at hl
  obtain⟨h1,h2⟩:=h 0 (by simp)
  have h1:v.cells.length=sz:=h1
  have e:cells=cells.take sz++cells.drop sz:=(afF _ _).symm
  rw[e,ae1]
  refine jH.append ⟨by simp[h1];omega,fun q hq=>?_⟩ (rU (sz:=sz) (fun i hi=>?_) (by simp;omega))
  ·have:=h2 q (by omega)
   rw[gD _ (by omega)]
   simpa using this
  ·obtain⟨g1,g2⟩:=h (i+1) (by simp;omega)
   refine⟨by simpa using g1,fun j hj=>?_⟩
   have:=g2 j hj
   rw[iC]
   have e2:sz+(i*sz+j)=(i+1)*sz+j:=by rw[afe];omega
   rw[e2]
   simpa using this
theorem EP (h:aC E B0 σ K w) (hB:B0<=w.heap.size) {t tx ty e:TypeId} {i:TypeInfo} {z:Value} {n sLen sCap st:Nat} {loc:Loc} {ag:Bool} {cx:Value} {olds news:List Value} {base:Option Addr} {fl:List V} (ht:E.P.underlying t=some (.slice e)) (hi:E.P.info? e=some i) (hz:i.zero=some z)
 (hzs:z.cells.size=i.size) (hsz:0<i.size) (hs:kS E.P w i.size n tx z cx news) (hold:∀w',w'.heap=w.heap->(Builtin.firstCells i.size sLen (.slice base sLen sCap)).run E.P w'= .ok olds.toArray w') (hol:olds.length=sLen*i.size) (h47:sLen+n<=2^47) (hb:(sLen+n)*i.bytes<=2^47) (hroom:sCap<sLen+n)
 (rf:jH K σ.top w fl (olds++news)) (hst:¬K.A st):
 Done E B0 (· =st) σ K w (Builtin.append_ #[t,tx] ty #[.slice base sLen sCap,cx]) (.vw loc st 0 (sLen+n) (sLen+n) i.size ag) (σ.setObj loc st (.cells fl)):=by
 have hrun:=run_append_grow' (ty:=ty) ht hi hz hs hold h47 hb hroom
 have hge:=grownCap_ge w (sLen+n) sCap e
 generalize grownCap w (sLen+n) sCap e=nc at hrun hge
 have hlen:(olds++news).length=(sLen+n)*i.size:=by rw[aaG,hol,hs.len,ae6]
 have hvs:((olds++news).toArray++Builtin.zeroCells z.cells (nc-(sLen+n))).size=nc*i.size:=by
  rw[Array.size_append]
  have:(olds++news).toArray.size=(sLen+n)*i.size:=by simpa using hlen
  rw[this]
  simp only[Builtin.zeroCells,Array.size_map,Array.size_range,hzs]
  rw[<-ae6];congr 1;omega
 have hfl:fl.length=(sLen+n)*i.size:=by rw[rf.1,hlen]
 have hpos:0< (sLen+n)*i.size:=Nat.mul_pos (by omega) hsz
 have hle:(sLen+n)*i.size<=nc*i.size:=ae3 _ hge
 have hstep:=(Step.draw (new:=(· =st)) h).trans (Step.wo (w:=w.drew) h.drew hB hst loc (.cells fl) (.cells ((olds++news).toArray++Builtin.zeroCells z.cells (nc-(sLen+n))) e) (nc*i.size) (fun K' e' _ hb' hs'=>by
  refine⟨fun h0=>by rw[h0] at hfl;simp at hfl;omega,fun _=>⟨by rw[hb'];exact hB,_,e,by rw[hb'];exact heap_alloc_new w.drew _,by rw[hs',hvs],by rw[hfl,hvs];exact hle,fun q hq=>?_⟩⟩
  rw[Kl (by omega)]
  have e0:Ext K σ.top w K σ.top w.drew:=(Step.draw (new:=fun _=>False) h).ext
  exact(rf.2 q hq).ext (e0.trans e')))
 refine⟨_,_,_,hrun,?_,hstep⟩
 have key:Rel (K.dG st w.drew.heap.size (nc*i.size) loc) (σ.setObj loc st (.cells fl)).top (w.drew.alloc (.cells ((olds++news).toArray++Builtin.zeroCells z.cells (nc-(sLen+n))) e)) (.vw loc st 0 (sLen+n) (sLen+n) i.size ag)
  (.slice (some (at_ ((K.dG st w.drew.heap.size (nc*i.size) loc).blk st) 0)) (sLen+n) nc):=
  .vw loc st 0 _ _ i.size ag nc (.inr rfl) hge (iP _) (by show 0+_<=upd K.sz st _ st;rw[upd_same];omega)
 have hblk:(K.dG st w.drew.heap.size (nc*i.size) loc).blk st=w.heap.size:=upd_same _ _ _
 rw[hblk] at key
 exact key
theorem Ko {b:Nat} {vals:Array Value} {t:TypeId} {off:Nat} {news:List Value} (g1:w.heap[b]? =some (.cells vals t (0,0))) (hle:off+news.length<=vals.size) (hone:∀u∈news,u.oneCell'=true):
 ∃w' vals',(storeCells (at_ b off) news).run E.P w= .ok () w'/\Only b w w'/\w'.heap[b]? =some (.cells vals' t (0,0))/\vals'.size=vals.size/\
  ∀i,i<vals.size->vals'.getD i undef=if off<=i/\i<off+news.length then news.getD (i-off) undef else vals.getD i undef:=by
 have hrun:=run_storeCells_at E.P b off t news 0 vals w g1 (by omega) hone
 refine⟨_,_,hrun,?_,setRow_heap w b vals _ t (0,0) g1,by simp;omega,fun i wD=>?_⟩
 ·refine⟨rfl,rfl,rfl,by simp[World.setRow],fun k hk _=>?_⟩
  simp[World.setRow,Array.getElem?_modify,Ne.symm hk]
 ·have hl:(vals.toList.take (off+0)).length=off:=by simp;omega
  have harr:∀(l:List Value),l.toArray.getD i undef=l.getD i undef:=fun l=>by simp[Array.getD,List.getD];split<;>simp_all
  rw[harr,aeC]
  by_cases h1:i<off
  ·rw[gF (by omega),gD _ (by omega),if_neg (by omega)]
   simp[List.getD,Array.getD,wD]
  ·rw[gG (by omega),hl]
   by_cases h2:i-off<news.length
   ·rw[gF h2,if_pos (by omega)]
   ·rw[gG (by omega),iC,if_neg (by omega)]
    have:off+0+news.length+(i-off-news.length)=i:=by omega
    rw[this]
    simp[List.getD,Array.getD,wD]
theorem ER {loc:Loc} {s:Nat} {ob:AObj} (ho:σ.obj loc=some (s,ob)):σ.setObj loc s ob=σ:=by
 unfold Sig.setObj
 have:upd σ.obj loc (some (s,ob))=σ.obj:=by
  funext l
  unfold upd
  split
  ·rename_i hl;rw[hl,ho]
  ·rfl
 rw[this]
theorem ET (h:aC E B0 σ K w) (hB:B0<=w.heap.size) {loc:Loc} {s off:Nat} {cs fl:List V} {news:List Value} (hcs:σ.cellsAt loc s=some cs) (rf:jH K σ.top w fl news) (hle:off+fl.length<=cs.length) (hone:∀u∈news,u.oneCell'=true):
 ∃w',(storeCells (at_ (K.blk s) off) news).run E.P w= .ok () w'/\Step E B0 new σ K w (σ.setObj loc s (.cells (spliceL cs off fl))) K w':=by
 obtain⟨ho,_,_⟩:=h.jF hcs
 obtain⟨_,bI,_⟩:=h.obj _ _ _ ho
 by_cases hne:cs=[]
 ·subst hne
  have h0:fl=[]:=by cases fl with|nil=>rfl|cons a b=>simp at hle
  subst h0
  have h0':news=[]:=afa (by rw[<-rf.1];rfl)
  subst h0'
  have hsp:spliceL [] off []=([]:List V):=by simp[spliceL]
  rw[hsp,ER ho]
  exact⟨w,rfl,.refl h⟩
 ·obtain⟨hb0,vals,t',g1,g2,g3,g4⟩:=bI.2 hne
  obtain⟨w',vals',r1,r2,r3,r4,r5⟩:=Ko (E:=E) (off:=off) (news:=news) g1 (by have:=rf.1;omega) hone
  refine⟨w',r1,Step.setCells h hB ho hne g1 r2 r3 r4 (by intro h0;have:=nM hle;rw[h0] at this;exact hne (afa this.symm)) (by rw[nM hle,r4];exact g3) (fun e i hi=>?_)⟩
  rw[nM hle] at hi
  have hiv:i<vals.size:=aeD hi g3
  rw[EJ hle,r5 i hiv,<-rf.1]
  by_cases hh:off<=i/\i<off+fl.length
  ·rw[if_pos hh,if_pos hh]
   exact(rf.2 _ (by omega)).ext e
  ·rw[if_neg hh,if_neg hh]
   exact(g4 i hi).ext e
end
end Aq
end
section
namespace Aq
open Go Go.RowKit
section
variable {E:Env} {B0:Nat} {σ:Sig} {K:aB} {w:World} {new:Nat->Prop} {T:Nat->Nat}
theorem EU {n b:Nat} (h:roomOK n b=true):n<=2^47/\n*b<=2^47:=by
 simp only[roomOK,RS,decide_eq_true_eq] at h
 exact⟨h.2,h.1⟩
theorem Ta {sz:Nat} {ys:List V} {news:List Value} (h:dA K T w sz ys news):(ys.flatMap V.cells).length=ys.length*sz:=by
 have:∀v∈ys,v.cells.length=sz:=fun v hv=>by
  obtain⟨i,hi,rfl⟩:=afR.1 hv
  have:=(h i hi).1
  rwa[cB hi] at this
 clear h
 induction ys with
 |nil=>simp
 |cons a l ih=>
  rw[ae1,aaG,ih (fun v hv=>this v (by simp[hv])),this a (by simp),List.length_cons,afe]
  omega
theorem Kq (h:aC E B0 σ K w) {loc:Loc} {s:Nat} {cs:List V} (hcs:σ.cellsAt loc s=some cs) {n:Nat} (hn:n<=cs.length):
 ∃vals:Nat->Value,jH K σ.top w (cs.take n) ((List.range n).map vals)/\∀j,j<n->w.cell? (at_ (K.blk s) j)=some (vals j):=by
 obtain⟨ho,_,_⟩:=h.jF hcs
 obtain⟨_,bI,_⟩:=h.obj _ _ _ ho
 by_cases hne:cs=[]
 ·subst hne
  have:n=0:=by simpa using hn
  subst this
  exact⟨fun _=>undef,⟨rfl,fun q hq=>absurd hq (ab2 q)⟩,fun j hj=>absurd hj (ab2 j)⟩
 ·obtain⟨hb0,vals,t',g1,g2,g3,g4⟩:=bI.2 hne
  refine⟨fun j=>vals.getD j undef,⟨by simp;omega,fun q hq=>?_⟩,fun j hj=>?_⟩
  ·have hq':q<n:=by simp at hq;omega
   rw[gD _ hq']
   have:((List.range n).map fun j=>vals.getD j undef).getD q undef=vals.getD q undef:=by simp[List.getD,hq']
   rw[this]
   exact g4 q (by omega)
  ·have:j<vals.size:=by omega
   simp[World.cell?,g1,this]
theorem Tc (h:aC E B0 σ K w) (hB:B0<=w.heap.size) {t tx ty e:TypeId} {i:TypeInfo} {z:Value} {st s len cap:Nat} {bZ loc:Loc} {ag mE:Bool} {ys cs:List V} {cx cy:Value} {news:List Value} {v:V} {σ':Sig} (ht:E.P.underlying t=some (.slice e)) (hi:E.P.info? e=some i) (hz:i.zero=some z)
 (hzs:z.cells.size=i.size) (hsz:0<i.size) (hst:¬K.A st) (hx:Rel K σ.top w (.vw bZ s 0 len cap i.size mE) cx) (hs:kS E.P w i.size ys.length tx z cy news) (ry:dA K σ.top w i.size ys news)
 (h47:len+ys.length<=2^47) (hb:(len+ys.length)*i.bytes<=2^47) (hcs:σ.cellsAt bZ s=some cs)
 (hv:(if len+ys.length<=cap then
     if (len+ys.length)*i.size<=cs.length then
      some (V.vw bZ s 0 (len+ys.length) cap i.size ag,σ.setObj bZ s (.cells (spliceL cs (len*i.size) (ys.flatMap V.cells))))
     else none
    else if len*i.size<=cs.length then
     some (.vw loc st 0 (len+ys.length) (len+ys.length) i.size ag,(σ.aX bZ).setObj loc st (.cells (cs.take (len*i.size)++ys.flatMap V.cells)))
    else none)=some (v,σ')):
 Done E B0 (· =st) σ K w (Builtin.append_ #[t,tx] ty #[cx,cy]) v σ':=by
 have hb':ys.length*i.bytes<=2^47:=aaI (ae3 _ (Nat.le_add_left _ _)) hb
 have hfl:=Ta ry
 have wI:=rU ry hs.len
 have hsum:(len+ys.length)*i.size=len*i.size+ys.length*i.size:=ae6 _ _ _
 obtain⟨ho,hA,hks⟩:=h.jF hcs
 split at hv
 ·rename_i hcap
  split at hv
  ·rename_i hle
   simp only[iE,mF] at hv
   obtain⟨rfl,rfl⟩:=hv
   cases hx with
   |dR=>
    have hys:ys=[]:=afa (by omega)
    subst hys
    have e1:spliceL cs (0*i.size) ([].flatMap V.cells)=cs:=by simp[spliceL]
    rw[e1,ER ho]
    exact⟨_,_,_,nN (ty:=ty) (base:=none) (sLen:=0) (sCap:=0) ht hi hz hs rfl (iP _),.dR bZ s i.size ag hA,.refl h⟩
   |vw _ _ _ _ _ _ _ aL hA' hcc hlc Au=>
    obtain⟨w',r1,r2⟩:=ET (new:=(· =st)) h hB hcs wI (off:=len*i.size) (by rw[hfl];omega) hs.one
    have hrun:=run_append_room' (ty:=ty) (sLen:=len) (sCap:=aL) (base:=some (at_ (K.blk s) 0)) (w':=w') ht hi hz hs (by omega) hb' (by omega) (fun a ha=>by
     simp only[iE] at ha;subst ha
     rw[addr_add,ae7];exact r1) (fun hn=>by cases hn)
    exact⟨_,_,_,hrun,.vw bZ s 0 _ cap i.size ag aL hA hcc hcap Au,r2⟩
  ·simp at hv
 ·rename_i hcap
  split at hv
  ·rename_i hle
   simp only[iE,mF] at hv
   obtain⟨rfl,rfl⟩:=hv
   have grow:∀base aL,(∀w',w'.heap=w.heap->∀vals:Nat->Value,(∀j,j<len*i.size->w.cell? (at_ (K.blk s) j)=some (vals j))->(Builtin.firstCells i.size len (.slice base len aL)).run E.P w'= .ok ((List.range (len*i.size)).map vals).toArray w')->aL<len+ys.length->
    Done E B0 (· =st) σ K w (Builtin.append_ #[t,tx] ty #[.slice base len aL,cy]) (.vw loc st 0 (len+ys.length) (len+ys.length) i.size ag) ((σ.aX bZ).setObj loc st (.cells (cs.take (len*i.size)++ys.flatMap V.cells))):=by
    intro base aL hold hroom
    obtain⟨vals,g1,g2⟩:=Kq h hcs hle
    have hd:=Step.aX (new:=(· =st)) h bZ
    obtain⟨a,b,c,d1,d2,d3⟩:=EP (ty:=ty) (ag:=ag) (loc:=loc) (base:=base) (sLen:=len) (sCap:=aL) (σ:=σ.aX bZ) (olds:=(List.range (len*i.size)).map vals) hd.ok hB ht hi hz hzs hsz hs (fun w' hw=>hold w' hw vals g2) (by simp) h47 hb hroom ((g1.append wI).ext hd.ext) hst
    exact⟨a,b,c,d1,d2,hd.trans d3⟩
   cases hx with
   |dR=>exact grow none 0 (fun w' _ vals _=>by simp[Builtin.firstCells]) (by omega)
   |vw _ _ _ _ _ _ _ aL hA' hcc hlc Au=>
    by_cases hr:len+ys.length<=aL
    ·have hmc:=ae3 i.size hr
     have hpos:0< (len+ys.length)*i.size:=Nat.mul_pos (by omega) hsz
     obtain⟨_,bI,_⟩:=h.obj _ _ _ ho
     have hne:cs≠[]:=by
      rintro rfl
      have:=bI.1 rfl
      omega
     obtain⟨hb0,vals,t',g1,g2,g3,g4⟩:=bI.2 hne
     obtain⟨w',vals',r1,r2,r3,r4,r5⟩:=Ko (E:=E) (off:=len*i.size) (news:=news) g1 (by have:=wI.1;omega) hs.one
     have hrun:=run_append_room' (ty:=ty) (sLen:=len) (sCap:=aL) (base:=some (at_ (K.blk s) 0)) (w':=w') ht hi hz hs (by omega) hb' hr (fun a ha=>by
      simp only[iE] at ha;subst ha
      rw[addr_add,ae7];exact r1) (fun hn=>by cases hn)
     have hcl:(cs.take (len*i.size)++ys.flatMap V.cells).length=(len+ys.length)*i.size:=by simp only[aaG,aev,hfl];omega
     have hstep:=Step.R4 (loc:=loc) (cs:=cs.take (len*i.size)++ys.flatMap V.cells) h hB hst ho hne g1 r2 r3 (by intro h0;rw[h0] at hcl;simp at hcl;omega) (by omega) (fun K' e' q hq=>by
      have Td:q<vals.size:=by omega
      have hrf:=wI.1
      have hlt:(cs.take (len*i.size)).length=len*i.size:=by simp only[aev];omega
      rw[r5 q Td]
      by_cases h1:q<len*i.size
      ·rw[gF (by omega),gD _ h1,if_neg (by omega)]
       exact(g4 q (by omega)).ext e'
      ·rw[gG (by omega),hlt,if_pos (by omega)]
       exact(wI.2 _ (by omega)).ext e')
     refine⟨_,_,_,hrun,?_,hstep⟩
     have key:Rel (K.dG st (K.blk s) vals'.size loc) ((σ.aX bZ).setObj loc st (.cells (cs.take (len*i.size)++ys.flatMap V.cells))).top w' (.vw loc st 0 (len+ys.length) (len+ys.length) i.size ag)
      (.slice (some (at_ ((K.dG st (K.blk s) vals'.size loc).blk st) 0)) (len+ys.length) aL):=
      .vw loc st 0 _ _ i.size ag aL (.inr rfl) hr (iP _) (by show 0+_<=upd K.sz st _ st;rw[upd_same];omega)
     have hblk:(K.dG st (K.blk s) vals'.size loc).blk st=K.blk s:=upd_same _ _ _
     rw[hblk] at key
     exact key
    ·exact grow (some (at_ (K.blk s) 0)) aL (fun w' hw vals Te=>by
      have:=rQ (E:=E) (w:=w) (sz:=i.size) (n:=len) (cap:=aL) (b:=K.blk s) (o:=0) (val:=fun p q=>vals (p*i.size+q)) (fun p q hp hq=>by
       rw[ae7];exact Te _ (mul_lt hp hq)) w' hw
      rw[this]
      congr 3
      funext q
      show vals (q/i.size*i.size+q% i.size)=vals q
      rw[afk,Nat.div_add_mod]) (by omega)
  ·simp at hv
theorem EW (h:aC E B0 σ K w) (hB:B0<=w.heap.size) {om zeros:Bool} {st:Nat} {loc:Option Loc} {t tx ty:TypeId} {x y v:V} {cx cy:Value} {σ':Sig} (hst:¬K.A st) (hx:Rel K σ.top w x cx) (hy:Rel K σ.top w y cy)
 (hk:zeros=true->∃k,E.P.underlying tx=some (.int k)) (hk':zeros=false->(∃e',E.P.underlying tx=some (.slice e'))\/E.P.underlying tx=some .string)
 (hv:dD E.P om zeros σ st loc t x y=some (v,σ')):Done E B0 (· =st) σ K w (Builtin.append_ #[t,tx] ty #[cx,cy]) v σ':=by
 simp only[dD,iR] at hv
 obtain⟨e,he,sz,hsz,by_,hby,ag,hag,z,hz,hv⟩:=hv
 split at hv
 ·rename_i hc
  obtain⟨c1,c2,c3,c4⟩:=hc
  simp only[iR] at hv
  obtain⟨ys,hys,hv⟩:=hv
  split at hv
  ·rename_i hone
   have hu:=pO he
   obtain⟨i,cz,hi,rfl,rfl,hiz,hzv⟩:=Kn hsz hby hz
   have hraw:notRaw z=true:=pK hz
   obtain⟨cz',_,hz2⟩:=mD w hz
   have hrz:Rel K σ.top w z cz:=Af hzv
   have hzs:cz.cells.size=i.size:=by rw[<-(mq hrz hraw).1,c2]
   obtain⟨news,hs,ry⟩:=SN (e:=e) h hy hrz hraw c2 c4 hk hk' c1 hys hone rfl
   cases x with
   |lst c l=>
    simp only at hv
    split at hv
    ·rename_i hr
     obtain⟨hr,hhead⟩:=hr
     obtain⟨h47,hb⟩:=EU hr
     have Kr:∀loc,(c= .nil\/(c= .full/\ys≠[]))->Done E B0 (· =st) σ K w (Builtin.append_ #[t,tx] ty #[cx,cy]) (.vw loc st 0 (l.length+ys.length) (l.length+ys.length) i.size ag) (σ.setObj loc st (.cells ((l++ys).flatMap V.cells))):=by
      intro loc hcc
      have Tf:=rU ry hs.len
      rcases rP hx hhead (fun n s hh=>by rcases hcc with rfl| ⟨rfl,_⟩<;>cases hh) with ⟨a0,rfl,ha0,rfl,_⟩| ⟨b,o,cap,val,rfl,h2,h3,h4,h5,h6⟩
      ·by_cases hy0:ys=[]
       ·subst hy0
        have ha:a0=none:=by
         rcases hcc with h1| ⟨_,h1⟩
         ·exact ha0 h1
         ·exact absurd rfl h1
        subst ha
        exact⟨_,_,_,nN (ty:=ty) (base:=none) (sLen:=0) (sCap:=0) hu hi hiz hs rfl (iP _),.dR loc st i.size ag (Or.inr rfl),Step.S9 h loc hst⟩
       ·have hl:0<ys.length:=afo.2 hy0
        have:=EP (ty:=ty) (ag:=ag) (loc:=loc) (base:=a0) (olds:=[]) (sLen:=0) (sCap:=0) (fl:=ys.flatMap V.cells) h hB hu hi hiz hzs c3 hs (fun w' _=>wH w' i.size a0) (by simp) (by simpa using h47) (by simpa using hb) (by omega) (by simpa using Tf) hst
        simpa using this
      ·rcases hcc with rfl| ⟨rfl,hy0⟩
       ·exact h6.elim
       ·have hcap:cap=l.length:=h6
        subst hcap
        have hl:0<ys.length:=afo.2 hy0
        have rc:=Kj (Ar h3 h5) ry (by simp)
        exact EP (ty:=ty) (ag:=ag) (loc:=loc) (base:=some (at_ b o)) h hB hu hi hiz hzs c3 hs (fun w' hw=>rQ (fun p j hp hj=>(h4 p j hp hj).1) w' hw) (by simp) h47 hb (by omega) (rU rc (by rw[aaG,hs.len,aaG,ae6];simp)) hst
     cases om with
     |true=>
      cases c with
      |nil=>
       simp only[aat,mF] at hv
       obtain⟨loc,_,rfl,rfl⟩:=hv
       exact Kr loc (.inl rfl)
      |full=>
       simp only at hv
       split at hv
       ·rename_i hy0
        simp only[iE,mF] at hv
        obtain⟨rfl,rfl⟩:=hv
        have hn:ys.length=0:=by simpa using hy0
        rcases rP hx hhead (fun n s hh=>by cases hh) with ⟨a0,rfl,_,rfl,_⟩| ⟨b,o,cap,val,rfl,h2,h3,h4,h5,h6⟩
        ·exact⟨_,_,_,nN (ty:=ty) (base:=a0) (sLen:=0) (sCap:=0) hu hi hiz hs hn (iP _),hx,Step.refl h⟩
        ·exact⟨_,_,_,nN (ty:=ty) (base:=some (at_ b o)) hu hi hiz hs hn (by omega),hx,Step.refl h⟩
       ·rename_i hy0
        simp only[aat,mF] at hv
        obtain⟨loc,_,rfl,rfl⟩:=hv
        exact Kr loc (.inr ⟨rfl,fun h0=>hy0 (by rw[h0];rfl)⟩)
      |own n s=>simp at hv
      |sh=>simp at hv
     |false=>
      refine SY (ty:=ty) h hB hu hi hiz hzs c3 hst hx hs ry h47 hb hhead ?_
      rw[<-hv]
      cases c<;>rfl
    ·simp at hv
   |vw bZ s off len cap aA mE=>
    simp only at hv
    split at hv
    ·rename_i hr
     obtain⟨hr,_,rfl,rfl⟩:=hr
     obtain⟨h47,hb⟩:=EU hr
     simp only[iR] at hv
     obtain⟨loc,_,cs,hcs,hv⟩:=hv
     exact Tc (ty:=ty) h hB hu hi hiz hzs c3 hst hx hs ry h47 hb hcs hv
    ·simp at hv
   |_=>simp at hv
  ·simp at hv
 ·simp at hv
end
end Aq
end
