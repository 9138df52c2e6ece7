import Derived.ControlIn
import Derived.RangeFuncLeaves
import Derived.Scope
import Derived.Test.YtabmooekodficaaGreatDoorF4402
set_option linter.all false
section
namespace Aq
open Go Go.RowKit
section
variable {E:Env} {B0:Nat} {σ:Sig} {K:aB} {w:World} {new:Nat->Prop} {T:Nat->Nat}
theorem Kt {v:V} {n:Int} {c:Value} (hr:Rel K T w v c) (h:dP v=some n):∃k,c= .int k n:=by
 cases v with
 |int k m=>
  simp only[dP,iE] at h;subst h
  cases hr;exact⟨k,rfl⟩
 |_=>simp[dP] at h
theorem Tg (h:aC E B0 σ K w) (hB:B0<=w.heap.size) {om:Bool} {st:Nat} {loc:Option Loc} {t:TypeId} {l c v:V} {cl cc:Value} {σ':Sig} (hst:¬K.A st) (hl:Rel K σ.top w l cl) (hc:Rel K σ.top w c cc)
 (hv:jW E.P om σ st loc t l c=some (v,σ')):Done E B0 (· =st) σ K w (Instr.makeSlice t cl cc) v σ':=by
 simp only[jW,iR] at hv
 obtain⟨e,he,sz,hsz,by_,hby,z,hz,n,hn,m,hm,hv⟩:=hv
 split at hv
 ·rename_i hcond
  obtain⟨c1,c2,c3,c4,c5⟩:=hcond
  obtain⟨hr1,hr2⟩:=EU c3
  obtain⟨k1,rfl⟩:=Kt hl hn
  obtain⟨k2,rfl⟩:=Kt hc hm
  obtain⟨i,cz,hi,rfl,rfl,hiz,hzv⟩:=Kn hsz hby hz
  have hraw:notRaw z=true:=pK hz
  have hrz:Rel K σ.top w z cz:=Af hzv
  have hrl:=wG hrz hraw c5 m.toNat
  have hu:=pO he
  have hb:(i.bytes:Int)*m<=281474976710656:=by
   have h1:((m.toNat*i.bytes:Nat):Int)<=((2^47:Nat):Int):=Int.ofNat_le.2 hr2
   rw[Int.natCast_mul,afE (by omega),Int.mul_comm] at h1
   have:((2^47:Nat):Int)=140737488355328:=by decide
   omega
  have hrun:=run_make (P:=E.P) w t e i cz hu hi hiz k1 k2 n m c1 c2 hb (by omega)
  have Ku:madeCells cz.cells (m.toNat*i.size)=(Array.range (m.toNat*i.size)).map fun j=>cz.cells[j% cz.cells.size]! :=rfl
  have hms:(madeCells cz.cells (m.toNat*i.size)).size=m.toNat*i.size:=by rw[Ku];simp
  split at hv
  ·rename_i h0
   obtain⟨rfl,_⟩:=h0
   simp only[iE,mF] at hv
   obtain⟨rfl,rfl⟩:=hv
   have hstep:=Step.JL h hB st 0 (.inl hst) (madeCells cz.cells (m.toNat*i.size)) e 0 (afd _)
   refine⟨_,_,_,hrun,?_,hstep⟩
   refine .lst _ [] w.heap.size 0 i.size m.toNat (fun _ _=>undef) (afd _) (fun p hp=>absurd hp (ab2 p)) (fun p q hp=>absurd hp (ab2 p)) (fun p q hp=>absurd hp (ab2 p)) ⟨rfl,Or.inr rfl,afd _,fun _=>⟨upd_same _ _ _,?_,?_⟩⟩
   ·show upd K.lo st _ st=_
    rw[upd_same];simp
   ·show upd K.hi st _ st=_
    rw[upd_same,hms];simp
  ·simp only[iR,aat,mF] at hv
   obtain⟨loc,_,ag,_,rfl,rfl⟩:=hv
   have hfl:(List.replicate m.toNat z.cells).flatten.length=m.toNat*i.size:=by simp[c5]
   have hstep:=Step.wo h hB hst loc (.cells (List.replicate m.toNat z.cells).flatten) (.cells (madeCells cz.cells (m.toNat*i.size)) e) (m.toNat*i.size) (fun K' e' _ hb' hs'=>by
    refine⟨fun h0=>by rw[h0] at hfl;rw[hs',<-hfl];rfl,fun _=>⟨by rw[hb'];exact hB,_,e,by rw[hb'];exact heap_alloc_new w _,by rw[hs',hms],by rw[hfl,hms];exact iP _,fun q hq=>?_⟩⟩
    have:=hrl.2 q hq
    rw[<-Ku] at this
    exact this.ext e')
   refine⟨_,_,_,hrun,?_,hstep⟩
   have key:Rel (K.dG st w.heap.size (m.toNat*i.size) loc) (σ.setObj loc st (.cells (List.replicate m.toNat z.cells).flatten)).top (w.alloc (.cells (madeCells cz.cells (m.toNat*i.size)) e)) (.vw loc st 0 n.toNat m.toNat i.size ag)
    (.slice (some (at_ ((K.dG st w.heap.size (m.toNat*i.size) loc).blk st) 0)) n.toNat m.toNat):=
    .vw loc st 0 _ _ i.size ag _ (Or.inr rfl) (iP _) (by omega) (by show 0+_<=upd K.sz st _ st;rw[upd_same];omega)
   have hblk:(K.dG st w.heap.size (m.toNat*i.size) loc).blk st=w.heap.size:=upd_same _ _ _
   rw[hblk] at key
   exact key
 ·simp at hv
theorem Ti (h:aC E B0 σ K w) (hB:B0<=w.heap.size) {st:Nat} {loc:Option Loc} {t:TypeId} {len:Nat} {parts:List (Nat×V)} {parts':Array (Nat×Value)} {v:V} {σ':Sig} (hst:¬K.A st)
 (hp:rM K σ.top w parts parts'.toList) (hv:nK E σ st loc t len parts=some (v,σ')):Done E B0 (· =st) σ K w (Instr.buildSlice t len parts') v σ':=by
 simp only[nK,iR] at hv
 obtain⟨e,he,sz,hsz,ag,hag,z,hz,hv⟩:=hv
 split at hv
 ·rename_i hc
  obtain⟨c1,c2,c3⟩:=hc
  simp only[iR,aat,mF] at hv
  obtain⟨cs,hcs,loc,_,rfl,rfl⟩:=hv
  obtain⟨cz,hz1,hz2⟩:=mD w hz
  have hraw:notRaw z=true:=pK hz
  have hrz:=wG (hz2 K σ.top) hraw c2 len
  obtain⟨vs',g1,g2,g3⟩:=wF (K:=K) (T:=σ.top) (w:=w) (place':=fun i=>some (i*sz,sz)) (fun i x hx=>by
   split at hx
   ·exact hx
   ·simp at hx) parts parts'.toList _ _ _ hp hrz hcs
  have hlen:cs.length=len*sz:=by rw[g2.1,g3];simp
  have hu:=pO he
  have hrun:(Instr.buildSlice t len parts').run E.P w= .ok (.slice (some ⟨w.heap.size,0,none⟩) len len) (w.alloc (.cells vs' e)):=by
   have hn:¬2^24<len*sz:=by omega
   by_cases h0:len*sz=0
   ·have hl0:len=0:=by
     rcases Nat.mul_eq_zero.1 h0 with h|h
     ·exact h
     ·omega
    subst hl0
    simp only[Instr.buildSlice,Sem.run_bind,run_underlying hu,Result.andThen_ok,dH w hsz,Nat.zero_mul]
    have g1':Instr.fill (fun i=>some (i*sz,sz)) #[] parts'.toList=some vs':=by
     have e0:((Array.range (0*sz)).map fun i=>cz.cells[i% cz.cells.size]!)= #[]:=by simp[Array.range_zero']
     rw[<-e0];exact g1
    have e1:∀f:Nat->Value,(Array.range 0).map f= #[]:=fun f=>by simp[Array.range_zero']
    simp only[if_true,e1,g1']
    simp[newRow]
   ·simp only[Instr.buildSlice,Sem.run_bind,run_underlying hu,Result.andThen_ok,dH w hsz,hn,gt_iff_lt,if_false,h0,hz1,Sem.run_pure]
    rw[g1]
    simp[newRow]
  have hms:vs'.size=len*sz:=by rw[<-g2.1,hlen]
  have hstep:=Step.wo h hB hst loc (.cells cs) (.cells vs' e) (len*sz) (fun K' e' _ hb' hs'=>by
   refine⟨fun h0=>by rw[h0] at hlen;rw[hs',<-hlen];rfl,fun _=>⟨by rw[hb'];exact hB,_,e,by rw[hb'];exact heap_alloc_new w _,by rw[hs',hms],by rw[hlen,hms];exact iP _,fun q hq=>?_⟩⟩
   exact(g2.2 q hq).ext e')
  refine⟨_,_,_,hrun,?_,hstep⟩
  have key:Rel (K.dG st w.heap.size (len*sz) loc) (σ.setObj loc st (.cells cs)).top (w.alloc (.cells vs' e)) (.vw loc st 0 len len sz ag)
   (.slice (some (at_ ((K.dG st w.heap.size (len*sz) loc).blk st) 0)) len len):=
   .vw loc st 0 _ _ sz ag _ (Or.inr rfl) (iP _) (iP _) (by show 0+_<=upd K.sz st _ st;rw[upd_same];omega)
  have hblk:(K.dG st w.heap.size (len*sz) loc).blk st=w.heap.size:=upd_same _ _ _
  rw[hblk] at key
  exact key
 ·simp at hv
theorem Tj (h:aC E B0 σ K w) {ag:Bool} {sz:Nat} {z y:V} {cy:Value} {ys:List V} (hy:Rel K σ.top w y cy) (hag:(ag||sz==1)=true) (hi:kQ y=false) (hv:dY σ ag sz z y=some ys):
 ∃cells,cells.length=ys.length*sz/\dA K σ.top w sz ys cells/\(∀w',(Builtin.lenOf cy).run E.P w'= .ok ys.length w')/\
  ∀n,n<=ys.length->(Builtin.firstCells sz n cy).run E.P w= .ok (cells.take (n*sz)).toArray w:=by
 have hrange:∀(f:Nat->Value) (a b:Nat),a<=b->((List.range b).map f).take a=(List.range a).map f:=by
  intro f a b hab
  rw[<-List.map_take,List.take_range,afC hab]
 cases y with
 |int=>simp[kQ] at hi
 |lst c l=>
  simp only[dY] at hv
  split at hv
  ·rename_i hs
   simp only[iE] at hv;subst hv
   have hx':=rO hy
   rcases rP hx' hs (fun n s hh=>by cases hh) with ⟨a,rfl,_,rfl,_⟩| ⟨b,o,cap,val,rfl,h2,h3,h4,h5,h6⟩
   ·exact⟨[],by simp,fun p hp=>absurd hp (ab2 p),fun _=>rfl,fun n hn=>by
     obtain rfl:n=0:=by simpa using hn
     simpa using wH w sz a⟩
   ·refine⟨_,by simp,Ar h3 h5,fun _=>rfl,fun n hn=>?_⟩
    rw[hrange _ _ _ (ae3 _ hn)]
    exact rQ (E:=E) (cap:=cap) (fun p q hp hq=>(h4 p q (by omega) hq).1) w rfl
  ·simp at hv
 |str s=>
  simp only[dY] at hv
  split at hv
  ·rename_i hs
   simp only[iE] at hv;subst hv;subst hs
   obtain⟨cells,_,h2⟩:=Kg (E:=E) (e:=(default:TypeId)) hy
   cases hy with|str _ b hb=>
   subst hb
   refine⟨byteCells b,by simp[byteCells],?_,fun w'=>by simp[Builtin.lenOf],fun n hn=>?_⟩
   ·intro i hi
    have hi':i<b.data.toList.length:=by simpa using hi
    have hg:(b.data.toList.map fC).getD i undefV=fC b.data.toList[i]:=by rw[cB hi,afz]
    rw[hg]
    refine⟨rfl,fun j hj=>?_⟩
    obtain rfl:j=0:=by omega
    have hv:(byteCells b).getD (i*1+0) undef= .int .u8 b.data.toList[i].toNat:=by
     have Ap:i<b.size:=by simpa using hi'
     simp[byteCells,List.getD,Ap]
    rw[hv]
    exact .int _ _
   ·simp only[Builtin.firstCells,Sem.run_pure]
    congr 1
    apply Array.ext'
    simp[byteCells]
  ·simp at hv
 |vw loc s off len cap aA mE=>
  simp only[dY] at hv
  split at hv
  ·simp at hv
  ·rename_i he
   have he:aA=sz:=by simpa using he
   subst he
   simp only[iR] at hv
   obtain⟨cs,hcs,hv⟩:=hv
   split at hv
   ·rename_i hc
    simp only[iE] at hv;subst hv
    have hlen:((chunks ag aA len (cs.drop off)).map er).length=len:=by rw[ab3,iZ]
    obtain⟨vals,g1,g2⟩:=Kq h hcs hc.1
    have Tk:dA K σ.top w aA ((chunks ag aA len (cs.drop off)).map er) ((List.range (len*aA)).map fun q=>vals (off+q)):=by
     intro p hp
     rw[hlen] at hp
     have hp':p< (chunks ag aA len (cs.drop off)).length:=by rw[iZ];exact hp
     have hge:((chunks ag aA len (cs.drop off)).map er).getD p undefV=er ((chunks ag aA len (cs.drop off)).getD p undefV):=by simp[List.getD,hp']
     rw[hge,Aj]
     have hcc:=EG (cs:=cs.drop off) ag (n:=aA) (k:=len) (fun hf=>by subst hf;simpa using hag) (by simp;omega) (fun hf=>by
      rcases hc.2 with h1|h1
      ·simp only[oneCells,aeP] at h1⊢
       exact fun x hx=>h1 x (List.mem_of_mem_drop hx)
      ·subst h1;cases hf) hp
     have hlt:p*aA+aA<=len*aA:=by
      have:=ae3 aA (Nat.succ_le_of_lt hp)
      rwa[afe] at this
     refine⟨by rw[hcc];simp;omega,fun j hj=>?_⟩
     refine EO (by rw[hcc];simp;omega) ?_
     rw[hcc,gD _ hj,iC,iC]
     have hq:p*aA+j<len*aA:=by omega
     have:((List.range (len*aA)).map fun q=>vals (off+q)).getD (p*aA+j) undef=vals (off+(p*aA+j)):=by simp[List.getD,hq]
     rw[this]
     have:=g1.2 (off+(p*aA+j)) (by have:=hc.1;simp;omega)
     rw[gD _ (by omega)] at this
     have e2:((List.range (off+len*aA)).map vals).getD (off+(p*aA+j)) undef=vals (off+(p*aA+j)):=by simp[List.getD,hq]
     rw[e2] at this
     exact this
    refine⟨_,by rw[hlen];simp,Tk,fun w'=>?_,fun n hn=>?_⟩
    ·rw[hlen];cases hy<;>rfl
    ·rw[hlen] at hn
     rw[hrange _ _ _ (ae3 _ hn)]
     cases hy with
     |dR=>obtain rfl:n=0:=by omega
          simp[Builtin.firstCells]
     |vw _ _ _ _ _ _ _ aL hA' hcc hlc hsz=>
      have hm:=ae3 aA hn
      have:=rQ (E:=E) (w:=w) (sz:=aA) (n:=n) (cap:=aL) (b:=K.blk s) (o:=off) (val:=fun p q=>vals (off+(p*aA+q))) (fun p q hp hq=>by
       rw[ae9];exact g2 _ (by have:=mul_lt hp hq;omega)) w rfl
      have e3:(fun q=>vals (off+(q/aA*aA+q% aA)))=fun q=>vals (off+q):=by
       funext q
       rw[afk (q/aA),Nat.div_add_mod]
      rw[e3] at this
      exact this
   ·simp at hv
 |_=>simp[dY] at hv
theorem Tm {sz n:Nat} {ys:List V} {cells:List Value} (h:dA K T w sz ys cells):dA K T w sz (ys.take n) (cells.take (n*sz)):=by
 intro i hi
 have hi':i<n/\i<ys.length:=by simp at hi;omega
 obtain⟨g1,g2⟩:=h i hi'.2
 rw[gD _ hi'.1]
 refine⟨g1,fun j hj=>?_⟩
 rw[gD _ (mul_lt hi'.1 hj)]
 exact g2 j hj
theorem Tn (h:aC E B0 σ K w) (hB:B0<=w.heap.size) {t tx ty:TypeId} {x y v:V} {cx cy:Value} {σ':Sig} (hx:Rel K σ.top w x cx) (hy:Rel K σ.top w y cy)
 (hv:copyV E.P σ t x y=some (v,σ')):Done E B0 new σ K w (Builtin.copy_ #[t,tx] ty #[cx,cy]) v σ':=by
 simp only[copyV,iR] at hv
 obtain⟨e,he,sz,hsz,ag,hag,hv⟩:=hv
 split at hv
 ·rename_i hc
  obtain⟨c1,c2⟩:=hc
  simp only[iR] at hv
  obtain⟨ys,hys,hv⟩:=hv
  split at hv
  ·rename_i hone
   have hu:=pO he
   obtain⟨cells,g1,g2,g3,g4⟩:=Tj (E:=E) h hy c2 c1 hys
   cases x with
   |vw loc s off len cap aA mE=>
    simp only[iR] at hv
    obtain⟨cs,hcs,hv⟩:=hv
    split at hv
    ·rename_i hle
     obtain⟨rfl,hle⟩:=hle
     simp only[iE,mF] at hv
     obtain⟨rfl,rfl⟩:=hv
     obtain⟨ho,hA,hks⟩:=h.jF hcs
     cases hx with
     |dR=>
      have e1:spliceL cs 0 ((ys.take (min ys.length 0)).flatMap V.cells)=cs:=by simp[spliceL]
      rw[e1,ER ho]
      refine⟨_,w,K,?_,.int .i64 _,.refl h⟩
      have g4':=g4 0 (afd _)
      simp at g4'
      simp[Builtin.copy_,run_underlying hu,g3,dH w hsz,g4',goInt]
     |vw _ _ _ _ _ _ _ aL hA' hcc hlc Au=>
      have hn:min ys.length len<=ys.length:=Nat.min_le_left _ _
      have hone':=Ak g2 g1 hone
      have hty:(ys.take (min ys.length len)).length=min ys.length len:=by simp
      have hct:(cells.take (min ys.length len*aA)).length=(ys.take (min ys.length len)).length*aA:=by
       rw[hty,aev,g1]
       exact afC (ae3 _ hn)
      have rf:=rU (Tm (n:=min ys.length len) g2) hct
      obtain⟨w',r1,r2⟩:=ET (new:=new) h hB hcs rf (off:=off) (by rw[rf.1,hct,hty];omega) (fun u hu=>hone' u (List.mem_of_mem_take hu))
      refine⟨_,w',K,?_,.int .i64 _,r2⟩
      have g4':=g4 _ hn
      have hm:(ys.length).min len=min ys.length len:=rfl
      simp[Builtin.copy_,run_underlying hu,g3,dH w hsz,hm,g4',r1,goInt]
    ·simp at hv
   |lst c l=>
    cases l with
    |nil=>
     simp only[iE,mF] at hv
     obtain⟨rfl,rfl⟩:=hv
     refine⟨_,w,K,?_,.int .i64 0,.refl h⟩
     have g4':=g4 0 (afd _)
     simp at g4'
     have hst:∀a:Addr,(storeCells a []).run E.P w= .ok () w:=fun a=>rfl
     cases hx with
     |aT _ a _ _=>cases a<;>simp[Builtin.copy_,run_underlying hu,g3,dH w hsz,g4',goInt,hst]
     |lst=>simp[Builtin.copy_,run_underlying hu,g3,dH w hsz,g4',goInt,hst]
    |cons a l=>simp at hv
   |_=>simp at hv
  ·simp at hv
 ·simp at hv
theorem Tq (h:aC E B0 σ K w) (hB:B0<=w.heap.size) {t ty:TypeId} {x v:V} {cx:Value} {σ':Sig} (hx:Rel K σ.top w x cx)
 (hv:jV E.P σ t x=some (v,σ')):Done E B0 new σ K w (Builtin.clear_ #[t] ty #[cx]) v σ':=by
 simp only[jV,iR] at hv
 obtain⟨e,he,sz,hsz,by_,hby,z,hz,hv⟩:=hv
 split at hv
 ·rename_i hc
  obtain⟨c1,c2⟩:=hc
  have hu:=pO he
  have hraw:notRaw z=true:=pK hz
  obtain⟨cz,hzv,hrz⟩:=mD (w:=w) hz
  have hrz:Rel K σ.top w z cz:=hrz _ _
  cases x with
  |vw loc s off len cap aA mE=>
   simp only[iR] at hv
   obtain⟨cs,hcs,hv⟩:=hv
   split at hv
   ·rename_i hle
    obtain⟨rfl,hle⟩:=hle
    by_cases hl0:len=0
    ·rw[if_pos hl0] at hv
     subst hl0
     simp only[iE,mF] at hv
     obtain⟨rfl,rfl⟩:=hv
     refine⟨_,w,K,?_,.tup [] #[] rfl (fun i hi=>absurd hi (ab2 i)),.refl h⟩
     cases hx<;>simp[Builtin.clear_,run_underlying hu]
    rw[if_neg hl0] at hv
    have h0:0<len:=Nat.pos_of_ne_zero hl0
    simp only[iE,mF] at hv
    obtain⟨rfl,rfl⟩:=hv
    cases hx with
    |dR=>exact absurd h0 (Nat.lt_irrefl _)
    |vw _ _ _ _ _ _ _ aL hA' hcc hlc Au=>
     have hcsz:cz.cells.size=aA:=by rw[<-(mq hrz hraw).1,c1]
     have hzc:Builtin.zeroCells cz.cells len=(Array.range (len*aA)).map fun i=>cz.cells[i% cz.cells.size]! :=by unfold Builtin.zeroCells;rw[hcsz]
     have hlen:(List.replicate len z).length=len:=List.length_replicate
     have hr:=wG hrz hraw c1 len
     have hrc:dA K σ.top w aA (List.replicate len z) (Builtin.zeroCells cz.cells len).toList:=by
      intro i hi
      rw[hlen] at hi
      have hg:(List.replicate len z).getD i undefV=z:=by simp[List.getD,hi]
      rw[hg]
      refine⟨c1,fun j hj=>?_⟩
      have hq:=mul_lt hi hj
      have:=hr.2 (i*aA+j) (by simp[c1];exact hq)
      have hm:(i*aA+j)% aA=j:=by rw[afk,Nat.mul_add_mod,afB hj]
      rw[Ai z.cells aA c1 (by omega) _ _ hq,hm] at this
      rw[hzc,wE]
      exact this
     have hnl:(Builtin.zeroCells cz.cells len).toList.length=(List.replicate len z).length*aA:=by rw[hzc,hlen];simp
     have hone:(List.replicate len z).all (fun v=>oneCells v.cells)=true:=aeP.2 fun u hu=>by
      rw[(List.mem_replicate.1 hu).2];exact c2
     have hone':=Ak hrc hnl hone
     have rf:=rU hrc hnl
     obtain⟨w',r1,r2⟩:=ET (new:=new) h hB hcs rf (off:=off) (by rw[rf.1,hnl,hlen];omega) hone'
     refine⟨_,w',K,?_,.tup [] #[] rfl (fun i hi=>absurd hi (ab2 i)),r2⟩
     cases len with
     |zero=>exact absurd h0 (Nat.lt_irrefl _)
     |succ n=>simp[Builtin.clear_,run_underlying hu,hzv,r1]
   ·simp at hv
  |lst c l=>
   cases l with
   |nil=>
    simp only[iE,mF] at hv
    obtain⟨rfl,rfl⟩:=hv
    refine⟨_,w,K,?_,.tup [] #[] rfl (fun i hi=>absurd hi (ab2 i)),.refl h⟩
    cases hx with
    |aT _ a _ _=>cases a<;>simp[Builtin.clear_,run_underlying hu]
    |lst=>simp[Builtin.clear_,run_underlying hu]
   |cons a l=>simp at hv
  |_=>simp at hv
 ·simp at hv
end
end Aq
end
section
namespace Aq
open Go Go.RowKit
section
variable {E:Env} {B0:Nat} {σ:Sig} {K:aB} {w:World} {new:Nat->Prop} {T:Nat->Nat}
theorem Tt (h:aC E B0 σ K w) {t ty:TypeId} {ts:Array TypeId} {x:V} {cx:Value} {n:Nat} (ht:ts[0]? =some t) (hx:Rel K σ.top w x cx) (hv:iW E σ t x=some n):
 (Builtin.len_ ts ty #[cx]).run E.P w= .ok (.int .i64 n) w:=by
 unfold iW at hv
 split at hv
 ·rename_i m e hu
  simp only[iE] at hv;subst hv
  simp[Builtin.len_,ht,run_underlying hu,goInt]
 ·rename_i k e loc s hu
  simp only[aat] at hv
  obtain⟨⟨ks,vs⟩,hm,rfl⟩:=hv
  unfold Sig.bg at hm
  split at hm
  ·rename_i s' ks' vs' ho
   split at hm
   ·rename_i hs
    subst hs
    simp only[iE,mF] at hm
    obtain⟨rfl,rfl⟩:=hm
    obtain⟨_,⟨_,es,aH,g1,g2,_⟩,_⟩:=h.obj _ _ _ ho
    cases hx
    have hg:(getObj (K.blk s')).run E.P w= .ok (.map es aH) w:=by simp[getObj,Sem.run,g1]
    simp[Builtin.len_,ht,run_underlying hu,goInt,hg,g2]
   ·simp at hm
  ·simp at hm
 ·rename_i k e ks vs hu
  simp only[iE] at hv;subst hv
  cases hx with|mapc _ _ b es aH hM hb hk hv' rk rv=>
  have hg:(getObj b).run E.P w= .ok (.map es aH) w:=by simp[getObj,Sem.run,hb]
  simp[Builtin.len_,ht,run_underlying hu,goInt,hg,hk]
 ·rename_i k e hu
  simp only[iE] at hv;subst hv
  cases hx
  simp[Builtin.len_,ht,run_underlying hu,goInt]
 ·rename_i a x hu
  simp only[aat] at hv
  obtain⟨⟨m,e⟩,hm,rfl⟩:=hv
  simp[Builtin.len_,ht,run_underlying hu,run_underlying (JV hm),goInt]
 ·rename_i e c l hu
  simp only[iE] at hv;subst hv
  cases hx<;>simp[Builtin.len_,ht,run_underlying hu,goInt]
 ·rename_i e loc s off len cap aA ag hu
  simp only[iE] at hv;subst hv
  cases hx<;>simp[Builtin.len_,ht,run_underlying hu,goInt]
 ·rename_i s hu
  simp only[iE] at hv;subst hv
  cases hx with|str _ b hb=>
  subst hb
  simp[Builtin.len_,ht,run_underlying hu,goInt]
 ·simp at hv
theorem Tv {t e ty:TypeId} {ts:Array TypeId} {x v:V} {cx:Value} {σ':Sig} (ht:ts[0]? =some t) (hu:E.P.underlying t=some (.slice e))
 (hv:(match x with|.lst .nil l|.lst .full l=>some (V.int .i64 l.length,σ)|_=>none)=some (v,σ')) (hx:Rel K σ.top w x cx):
 σ'=σ/\∃c,(Builtin.cap_ ts ty #[cx]).run E.P w= .ok c w/\Rel K σ.top w v c:=by
 cases x with
 |lst c l=>
  cases c with
  |nil=>
   simp only[iE,mF] at hv
   obtain⟨rfl,rfl⟩:=hv
   cases hx with
   |aT _ a=>exact⟨rfl,_,by cases a<;>simp[Builtin.cap_,ht,run_underlying hu,goInt],.int .i64 0⟩
   |lst _ _ _ _ _ _ _ _ _ _ _ hc=>exact hc.elim
  |full=>
   simp only[iE,mF] at hv
   obtain⟨rfl,rfl⟩:=hv
   cases hx with
   |aT _ a=>exact⟨rfl,_,by cases a<;>simp[Builtin.cap_,ht,run_underlying hu,goInt],.int .i64 0⟩
   |lst _ _ _ _ _ cap _ _ _ _ _ hc=>
    have hc:cap=l.length:=hc
    subst hc
    exact⟨rfl,_,by simp[Builtin.cap_,ht,run_underlying hu,goInt],.int .i64 _⟩
  |_=>simp at hv
 |_=>simp at hv
theorem Kv:∀(l:List V) (cl:List Value) (x v:V) (cx:Value),l.length=cl.length->(∀i,i<l.length->Rel K T w (l.getD i undefV) (cl.getD i undef))->Rel K T w x cx->minMaxV false x l=some v->
 ∃c,(cl.foldlM Builtin.min2 cx).run E.P w= .ok c w/\Rel K T w v c
 | [],[],x,v,cx,_,_,hx,hv=>by
   simp only[minMaxV,iE] at hv;subst hv
   exact⟨cx,rfl,hx⟩
 |y::l,cy::cl,x,v,cx,hl,hr,hx,hv=>by
  cases x<;>cases y<;>simp only[minMaxV,reduceCtorEq] at hv
  rename_i k a k' b
  split at hv
  ·rename_i hk
   subst hk
   have h0:=hr 0 (by simp)
   simp at h0
   cases hx;cases h0
   obtain⟨c,h1,h2⟩:=Kv l cl _ v (.int k (if b<a then b else a)) (by simpa using hl) (fun i hi=>by have:=hr (i+1) (by simp;omega);simpa using this) (.int k _) hv
   exact⟨c,by simpa [Builtin.min2] using h1,h2⟩
  ·simp at hv
 | [],_::_,_,_,_,h,_,_,_=>by simp at h
 |_::_,[],_,_,_,h,_,_,_=>by simp at h
theorem Kw:∀(l:List V) (cl:List Value) (x v:V) (cx:Value),l.length=cl.length->(∀i,i<l.length->Rel K T w (l.getD i undefV) (cl.getD i undef))->Rel K T w x cx->minMaxV true x l=some v->
 ∃c,(cl.foldlM Builtin.max2 cx).run E.P w= .ok c w/\Rel K T w v c
 | [],[],x,v,cx,_,_,hx,hv=>by
   simp only[minMaxV,iE] at hv;subst hv
   exact⟨cx,rfl,hx⟩
 |y::l,cy::cl,x,v,cx,hl,hr,hx,hv=>by
  cases x<;>cases y<;>simp only[minMaxV,reduceCtorEq] at hv
  rename_i k a k' b
  split at hv
  ·rename_i hk
   subst hk
   have h0:=hr 0 (by simp)
   simp at h0
   cases hx;cases h0
   obtain⟨c,h1,h2⟩:=Kw l cl _ v (.int k (if b>a then b else a)) (by simpa using hl) (fun i hi=>by have:=hr (i+1) (by simp;omega);simpa using this) (.int k _) hv
   exact⟨c,by simpa [Builtin.max2] using h1,h2⟩
  ·simp at hv
 | [],_::_,_,_,_,h,_,_,_=>by simp at h
 |_::_,[],_,_,_,h,_,_,_=>by simp at h
end
end Aq
end
section
namespace Aq
open Go Go.RowKit
section
variable {E:Env} {B0:Nat} {σ:Sig} {K:aB} {w:World} {new:Nat->Prop} {T:Nat->Nat}
def jc (E:Env) (B0:Nat) (new:Nat->Prop) (σ:Sig) (K:aB) (w:World) (s:Sem Next) (v:V) (σ':Sig):Prop:=
 ∃nx c w' K',s.run E.P w= .ok nx w'/\(nx= .value c\/(nx= .skip/\c=undef))/\Rel K' σ'.top w' v c/\Step E B0 new σ K w σ' K' w'
theorem jc.iD {s:Sem Value} {v:V} {σ':Sig} (h:Done E B0 new σ K w s v σ'):jc E B0 new σ K w (do pure (.value (<-s))) v σ':=by
 obtain⟨c,w',K',h1,h2,h3⟩:=h
 exact⟨.value c,c,w',K',by simp[h1],.inl rfl,h2,h3⟩
theorem jc.bW (h:aC E B0 σ K w) {s:Sem Value} {v:V} (hs:∃c,s.run E.P w= .ok c w/\Rel K σ.top w v c):jc E B0 new σ K w (do pure (.value (<-s))) v σ:=
 .iD (.bW h hs)
theorem jc.EX {s:Sem Unit} {σ':Sig} {K':aB} {w':World} (h:s.run E.P w= .ok () w') (hs:Step E B0 new σ K w σ' K' w'):jc E B0 new σ K w (do s;pure .skip) undefV σ':=
 ⟨.skip,undef,w',K',by simp[h],.inr ⟨rfl,rfl⟩,.undef _ _ _,hs⟩
theorem pR {fr:Fr} {a:Act} (h:aC E B0 σ K w) (hf:dK K σ.top w fr a.tmps) (xs:Array Operand):
 (xs.toList.map (fr.ev E)).length=(xs.map a.eval).size/\∀i,i< (xs.toList.map (fr.ev E)).length->Rel K σ.top w ((xs.toList.map (fr.ev E)).getD i undefV) ((xs.map a.eval).getD i undef):=by
 refine⟨by simp,fun i hi=>?_⟩
 have hi':i<xs.size:=by simpa using hi
 have e1:(xs.toList.map (fr.ev E)).getD i undefV=fr.ev E xs[i]:=by simp[List.getD,hi']
 have e2:(xs.map a.eval).getD i undef=a.eval xs[i]:=by simp[Array.getD,hi']
 rw[e1,e2]
 exact mo h hf _
theorem Ky {v:V} {c:Value} {b:Bool} (hr:Rel K T w v c) (h:jX v=some b):c= .bool b:=by
 cases v<;>simp only[jX,reduceCtorEq,iE] at h
 subst h
 cases hr;rfl
theorem Kz (h:aC E B0 σ K w) (hB:B0<=w.heap.size) {st:Nat} (hst:¬K.A st) (loc:Loc) (t:TypeId) {x:V} {cx:Value} (hx:Rel K σ.top w x cx) (hraw:notRaw x=true):
 Done E B0 (· =st) σ K w (do pure (.pointer (some (<-newVar t cx)))) (.ref loc st 0) (σ.setObj loc st (.cells x.cells)):=by
 obtain⟨h1,h2⟩:=mq hx hraw
 have hstep:=Step.wo h hB hst loc (.cells x.cells) (.cells cx.cells t) cx.cells.size (fun K' e' _ hb' hs'=>
  ⟨fun h0=>by rw[hs',<-h1,h0];rfl,fun _=>⟨by rw[hb'];exact hB,_,t,by rw[hb'];exact heap_alloc_new w _,hs'.symm,by rw[h1];exact iP _,fun i hi=>(h2 i hi).ext e'⟩⟩)
 refine⟨.pointer (some (at_ w.heap.size 0)),_,_,by simp[newVar,newRow],?_,hstep⟩
 have key:Rel (K.dG st w.heap.size cx.cells.size loc) (σ.setObj loc st (.cells x.cells)).top (w.alloc (.cells cx.cells t)) (.ref loc st 0) (.pointer (some (at_ ((K.dG st w.heap.size cx.cells.size loc).blk st) 0))):=.ref loc st 0 (Or.inr rfl)
 have hblk:(K.dG st w.heap.size cx.cells.size loc).blk st=w.heap.size:=upd_same _ _ _
 rw[hblk] at key
 exact key
theorem Tw (h:aC E B0 σ K w) (hB:B0<=w.heap.size) {st:Nat} (t:TypeId) {x:V} {cx:Value} (hx:Rel K σ.top w x cx) (hraw:notRaw x=true):
 Done E B0 (· =st) σ K w (do pure (.pointer (some (<-newVar t cx)))) (.cref x.cells 0) σ:=by
 obtain⟨h1,h2⟩:=mq hx hraw
 have hst:=Step.JK (new:=(· =st)) h hB cx.cells t (0,0)
 refine⟨.pointer (some (at_ w.heap.size 0)),_,_,by simp[newVar,newRow],?_,hst⟩
 have hcell:∀j,j<cx.cells.size->(w.alloc (.cells cx.cells t)).cell? (at_ w.heap.size (0+j))=some (cx.cells.getD j undef):=fun j hj=>by
  rw[ae7];exact wu hj
 exact .cref x.cells 0 w.heap.size 0 (fun j=>cx.cells.getD j undef) (fun j hj=>⟨hcell j (by omega),.inr ⟨rfl,by omega⟩⟩) (fun j hj=>(h2 j hj).ext hst.ext)
theorem Tx (h:aC E B0 σ K w) (hB:B0<=w.heap.size) {st:Nat} (hst:¬K.A st) (loc:Loc) (t:TypeId):
 Done E B0 (· =st) σ K w (Instr.makeMap t none) (.mapr loc st) (σ.setObj loc st (.map [] [])):=by
 have hstep:=Step.wo h hB hst loc (.map [] []) (.map #[] 0) 0 (fun K' e' _ hb' hs'=>
  ⟨by rw[hb'];exact hB, #[],0,by rw[hb'];exact heap_alloc_new w _,rfl,rfl,fun i hi=>absurd hi (ab2 i),fun i hi=>absurd hi (ab2 i)⟩)
 refine⟨.map (some w.heap.size),_,_,by simp[Instr.makeMap],?_,hstep⟩
 have key:Rel (K.dG st w.heap.size 0 loc) (σ.setObj loc st (.map [] [])).top (w.alloc (.map #[] 0)) (.mapr loc st) (.map (some ((K.dG st w.heap.size 0 loc).blk st))):=.mapr loc st (Or.inr rfl)
 have hblk:(K.dG st w.heap.size 0 loc).blk st=w.heap.size:=upd_same _ _ _
 rw[hblk] at key
 exact key
def aB.freeze (K:aB) (b n:Nat):aB:={K with I:=fun b' o=>K.I b' o\/(b'=b/\o<n),ρ:=upd K.ρ b none}
theorem KC (K:aB) (T:Nat->Nat) (w:World) (b n:Nat):Ext K T w (K.freeze b n) T w:=
 ⟨fun _ h=>⟨h,rfl,rfl,rfl⟩,fun _ _=>.inl ⟨rfl,rfl,rfl,rfl⟩,fun _ _ h=>⟨.inl h,rfl⟩,fun _ h=>⟨h,rfl⟩⟩
theorem Step.freeze (h:aC E B0 σ K w) {loc:Loc} {s:Nat} {cs:List V} (hs:σ.obj loc=some (s,.cells cs)) (hne:cs≠[]) {n:Nat} (hn:∀i,i<n->∃v,w.cell? (at_ (K.blk s) i)=some v):
 Step E B0 new σ K w (σ.aX loc) (K.freeze (K.blk s) n) w:=by
 obtain⟨a1,a2,a3⟩:=h.obj loc s _ hs
 obtain⟨b1,_⟩:=a2.2 hne
 have hρ:K.ρ (K.blk s)=some (.obj loc):=a3 (by cases cs with|nil=>exact absurd rfl hne|cons _ _=>trivial)
 have e:=KC K σ.top w (K.blk s) n
 have hne':∀b r,K.ρ b=some r->r≠ .obj loc->b≠K.blk s:=fun b r h1 h2 e=>by
  rw[e,hρ] at h1
  exact h2 (aeF h1).symm
 refine⟨⟨fun loc' s' ob hs'=>?_,fun s' hA hlt=>?_,fun b o hi=>?_,fun b hi=>?_,fun l r hl=>?_,fun g cs hg=>(h.glob g cs hg).ext e,fun b r hr=>?_,h.D⟩,e,.refl _ _,fun _ h=>h,fun _ h=>.inl h,fun b o hi=>?_,fun _ h=>.inl h⟩
 ·by_cases hl:loc'=loc
  ·subst hl;simp[Sig.aX,upd_same] at hs'
  ·simp only[Sig.aX,upd_ne _ _ hl] at hs'
   obtain⟨g1,g2,g3⟩:=h.obj loc' s' ob hs'
   refine⟨g1,g2.ext e g1 (fun _=>rfl),fun hr=>?_⟩
   have h1:=g3 hr
   have h2:K.blk s'≠K.blk s:=hne' _ _ h1 (fun e=>hl (by cases e;rfl))
   show upd K.ρ (K.blk s) none (K.blk s')=_
   rw[upd_ne _ _ h2];exact h1
 ·obtain⟨g1,g2,g3⟩:=h.own s' hA hlt
  have h2:K.ob s'≠K.blk s:=hne' _ _ g2 (fun e=>by cases e)
  refine⟨g1,?_,fun o h3 h4=>?_⟩
  ·show upd K.ρ (K.blk s) none (K.ob s')=_
   rw[upd_ne _ _ h2];exact g2
  ·obtain⟨c1,c2,c3⟩:=g3 o h3 h4
   exact⟨fun hi=>hi.elim c1 (fun hi=>h2 hi.1),c2,c3⟩
 ·have hk:∀loc',(K.freeze (K.blk s) n).ρ b≠some (.obj loc')\/K.ρ b=some (.obj loc'):=fun loc'=>by
   by_cases hb:b=K.blk s
   ·left;show upd K.ρ (K.blk s) none b≠_
    rw[hb,upd_same];simp
   ·by_cases hq:K.ρ b=some (.obj loc')
    ·exact .inr hq
    ·left;show upd K.ρ (K.blk s) none b≠_
     rw[upd_ne _ _ hb];exact hq
  rcases hi with hi| ⟨rfl,hi⟩
  ·obtain⟨g1,g2⟩:=h.I b o hi
   exact⟨g1,fun loc'=>(hk loc').resolve_right (g2 loc')⟩
  ·refine⟨hn o hi,fun loc'=>?_⟩
   show upd K.ρ (K.blk s) none (K.blk s)≠_
   rw[upd_same];simp
 ·obtain⟨g1,g2⟩:=h.IM b hi
  refine⟨g1,fun loc'=>?_⟩
  show upd K.ρ (K.blk s) none b≠_
  by_cases hb:b=K.blk s
  ·rw[hb,upd_same];simp
  ·rw[upd_ne _ _ hb];exact g2 loc'
 ·obtain⟨g1,g2⟩:=h.loop l r hl
  have h2:K.lp l≠K.blk s:=hne' _ _ g2.2.1 (fun e=>by cases e)
  exact⟨g1,g2.ext e g1 rfl (upd_ne _ _ h2)⟩
 ·have hr':upd K.ρ (K.blk s) none b=some r:=hr
  by_cases hb:b=K.blk s
  ·rw[hb,upd_same] at hr';cases hr'
  ·rw[upd_ne _ _ hb] at hr';exact h.rb b r hr'
 ·rcases hi with hi| ⟨rfl,_⟩
  ·exact .inl hi
  ·exact .inr b1
theorem Tz (h:aC E B0 σ K w) {x v:V} {c:Value} {σ':Sig} (hr:Rel K σ.top w x c) (hv:jY σ x=some (v,σ')):∃K',Rel K' σ'.top w v c/\Step E B0 new σ K w σ' K' w:=by
 unfold jY at hv
 split at hv
 ·rename_i loc s off len cap aA ag
  simp only[iR] at hv
  obtain⟨cs,hcs,hv⟩:=hv
  split at hv
  ·rename_i hc
   obtain⟨hlen,hag⟩:=hc
   simp only[iE,mF] at hv
   obtain⟨rfl,rfl⟩:=hv
   have wJ:ag=false->aA=1:=fun e=>by simp[e] at hag;exact hag.1
   have wK:ag=false->oneCells (((cs.drop off).take (len*aA)).map aU)=true:=fun e=>by simp only[e,Bool.false_or,RS] at hag;exact hag.2
   cases hr with
   |dR _ _ _ _ hA=>
    exact⟨K,.aT .sh none (fun _=>rfl) trivial,.aX h loc⟩
   |vw _ _ _ _ _ _ _ aL hA hcp hle hsz=>
    by_cases hne:cs=[]
    ·subst hne
     have h0:len*aA=0:=by simp at hlen;omega
     refine⟨K,?_,.aX h loc⟩
     exact rF (w:=w) (val:=fun _=>undef) wJ (by rw[h0];exact afd _) wK (fun j hj=>by omega) (fun j hj=>by omega) (by omega) trivial
    ·obtain⟨g1,_,_⟩:=h.jF hcs
     obtain⟨a1,a2,a3⟩:=h.obj _ _ _ g1
     obtain⟨b1,vals,t,b2,b3,b4,b5⟩:=a2.2 hne
     have e6:∀i,i<vals.size->w.cell? (at_ (K.blk s) i)=some (vals.getD i undef):=fun i hi=>by simp[World.cell?,b2,Array.getD,hi]
     refine⟨K.freeze (K.blk s) vals.size,?_,.freeze h g1 hne (fun i hi=>⟨_,e6 i hi⟩)⟩
     have hl':((cs.drop off).take (len*aA)).length=len*aA:=by simp;omega
     refine rF (w:=w) (val:=fun i=>vals.getD (off+i) undef) wJ (by simp;omega) wK (fun j hj=>⟨e6 _ (by omega),.inr ⟨rfl,by omega⟩⟩) (fun j hj=>?_) (by omega) trivial
     have hj':j< ((cs.drop off).take (len*aA)).length:=by omega
     have e1:(((cs.drop off).take (len*aA)).map aU).getD j undefV=aU (cs.getD (off+j) undefV):=by
      rw[<-iC,<-gD (cs.drop off) hj,cB (by simpa using hj'),cB hj'];simp
     rw[e1]
     exact(rO (b5 _ (by omega))).ext (KC _ _ _ _ _)
  ·simp at hv
 ·rename_i cc l
  simp only[iE,mF] at hv
  obtain⟨rfl,rfl⟩:=hv
  exact⟨K,rO hr,.refl h⟩
 ·simp only[iE,mF] at hv
  obtain⟨rfl,rfl⟩:=hv
  exact⟨K,hr,.refl h⟩
theorem TA {t xt:TypeId} {ok:Bool} {x v:V} {cx:Value} (hx:Rel K σ.top w x cx) (hv:Em E.P t ok x=some v):
 ∃c,(Instr.typeAssert cx xt t ok).run E.P w= .ok c w/\Rel K σ.top w v c:=by
 unfold Em at hv
 have two:∀{a b:V} {ca cb:Value},Rel K σ.top w a ca->Rel K σ.top w b cb->Rel K σ.top w (.tup [a,b]) (.tuple #[ca,cb]):=fun {a b ca cb} ha hb=>.tup _ _ rfl (fun i hi=>by
  match i,hi with
  |0,_=>exact ha
  |1,_=>exact hb)
 split at hv
 ·cases hv
 ·cases hv
 ·rename_i d hni hd
  have hu:(underlying t).run E.P w= .ok d w:=run_underlying hd w
  split at hv
  ·rename_i u y
   cases hx with
   |iface _ _ c hr=>
   split at hv
   ·rename_i hut
    subst hut
    simp only[iE] at hv
    cases ok with
    |true=>
     simp only[if_true] at hv
     subst hv
     refine⟨_,?_,two hr (.bool true)⟩
     cases d<;>first| (exact absurd rfl (hni _))|simp[Instr.typeAssert,hu]
    |false=>
     simp only[aaB,if_false] at hv
     subst hv
     refine⟨_,?_,hr⟩
     cases d<;>first| (exact absurd rfl (hni _))|simp[Instr.typeAssert,hu]
   ·rename_i hut
    split at hv
    ·rename_i hok
     subst hok
     simp only[aat] at hv
     obtain⟨z,hz,rfl⟩:=hv
     obtain⟨c,h1,h2⟩:=mD (w:=w) hz
     refine⟨_,?_,two (h2 _ _) (.bool false)⟩
     cases d<;>first| (exact absurd rfl (hni _))|simp[Instr.typeAssert,hu,hut,h1]
    ·cases hv
  ·cases hx
   split at hv
   ·rename_i hok
    subst hok
    simp only[aat] at hv
    obtain⟨z,hz,rfl⟩:=hv
    obtain⟨c,h1,h2⟩:=mD (w:=w) hz
    refine⟨_,?_,two (h2 _ _) (.bool false)⟩
    cases d<;>first| (exact absurd rfl (hni _))|simp[Instr.typeAssert,hu,h1]
   ·cases hv
  ·cases hv
theorem TB (h:aC E B0 σ K w) (hB:B0<=w.heap.size) {fr:Fr} {a:Act} (hf:dK K σ.top w fr a.tmps) {st:Nat} (hst:¬K.A st) {o:Oper} {v:V} {σ':Sig} (hv:opV E fr σ st o=some (v,σ')):
 jc E B0 (· =st) σ K w (execOp a.eval o) v σ':=by
 have ev:=fun x=>mo h hf x
 unfold opV at hv
 unfold execOp
 split at hv
 ·rename_i x hop
  split at hv
  ·obtain⟨K',r1,r2⟩:=Tz (new:=(· =st)) h (ev x) hv
   simp only[hop]
   exact⟨.value (a.eval x),a.eval x,w,K',rfl,.inl rfl,r1,r2⟩
  simp only[iE,mF] at hv
  obtain⟨rfl,rfl⟩:=hv
  simp only[hop]
  exact⟨.value (a.eval x),a.eval x,w,K,rfl,.inl rfl,ev x,.refl h⟩
 ·rename_i x hop
  simp only[iE,mF] at hv
  obtain⟨rfl,rfl⟩:=hv
  simp only[hop]
  exact⟨.value (a.eval x),a.eval x,w,K,rfl,.inl rfl,ev x,.refl h⟩
 ·rename_i c x y hop
  simp only[aat,mF] at hv
  obtain⟨b,hb,rfl,rfl⟩:=hv
  simp only[hop]
  have hc:=Ky (ev c) hb
  refine⟨.value (if b then a.eval x else a.eval y),_,w,K,by simp[asBool,hc],.inl rfl,?_,.refl h⟩
  cases b
  ·exact ev y
  ·exact ev x
 ·rename_i t hop
  simp only[iR] at hv
  obtain⟨loc,_,z,hz,hv⟩:=hv
  split at hv
  ·simp only[iE,mF] at hv
   obtain⟨rfl,rfl⟩:=hv
   simp only[hop]
   obtain⟨cz,hz1,hz2⟩:=mD w hz
   obtain⟨c,w',K',r1,r2,r3⟩:=Kz h hB hst loc t (hz2 K σ.top) (pK hz)
   refine .iD ⟨c,w',K',?_,r2,r3⟩
   simp only[Instr.alloc,Sem.run_bind,hz1,Result.andThen_ok]
   exact r1
  ·simp at hv
 ·rename_i t x hop
  split at hv
  ·split at hv
   ·rename_i hc
    simp only[iE,mF] at hv
    obtain⟨rfl,rfl⟩:=hv
    simp only[hop]
    exact .iD (Tw h hB t (EN (ev x)) (SF hc.2))
   ·simp at hv
  simp only[iR] at hv
  obtain⟨loc,_,hv⟩:=hv
  split at hv
  ·rename_i hc
   simp only[iE,mF] at hv
   obtain⟨rfl,rfl⟩:=hv
   simp only[hop]
   exact .iD (Kz h hB hst loc t (ev x) hc.2)
  ·simp at hv
 ·rename_i t parts hop
  simp only[iR,aat,mF] at hv
  obtain⟨pl,hpl,z,hz,cs,hcs,rfl,rfl⟩:=hv
  simp only[hop]
  refine .bW h (SE hpl hz ?_ (pK hz) hcs)
  rw[Array.toList_map]
  exact Ah h hf _
 ·rename_i t len parts hop
  split at hv
  ·simp only[hop]
   refine .iD (Ti h hB hst ?_ hv)
   rw[Array.toList_map]
   exact Ah h hf _
  ·simp only[aat,mF] at hv
   obtain⟨v',hv',rfl,rfl⟩:=hv
   simp only[hop]
   refine .iD (SH h hB ?_ hv')
   rw[Array.toList_map]
   exact Ah h hf _
 ·rename_i t x hop
  simp only[hop]
  have hx:=ev x
  generalize fr.ev E x=xv at hv hx
  cases xv with
  |ref loc s off=>
   simp only[iR,aat,mF] at hv
   obtain⟨cs,h1,v',h2,rfl,rfl⟩:=hv
   exact .bW h (EI h hx (by simp[h1,h2]))
  |cref cs off=>
   simp only[aat,mF] at hv
   obtain⟨v',h2,rfl,rfl⟩:=hv
   exact .bW h (EI h hx h2)
  |_=>simp at hv
 ·rename_i t p x hop
  simp only[hop]
  have hp:=ev p
  have hx:=ev x
  generalize fr.ev E p=pv at hv hp
  cases pv with
  |ref loc s off=>
   simp only[iR] at hv
   obtain⟨cs,hcs,hv⟩:=hv
   split at hv
   ·rename_i hc
    simp only[iE,mF] at hv
    obtain⟨rfl,rfl⟩:=hv
    obtain⟨w',r1,r2⟩:=Sw (new:=(· =st)) h hB hp hx hcs hc.1 hc.2.1 hc.2.2
    exact .EX r1 r2
   ·simp at hv
  |_=>simp at hv
 ·rename_i x hop
  simp only[hop]
  have hx:=ev x
  generalize fr.ev E x=xv at hv hx
  cases xv with
  |ref loc s off=>
   simp only[iE,mF] at hv
   obtain⟨rfl,rfl⟩:=hv
   generalize a.eval x=cx at hx
   cases hx with|ref _ _ _ hA=>exact⟨_,_,w,K,rfl,.inl rfl,.ref loc s off hA,.refl h⟩
  |cref cs off=>
   simp only[iE,mF] at hv
   obtain⟨rfl,rfl⟩:=hv
   generalize a.eval x=cx at hx
   have hx':=hx
   cases hx with|cref _ _ b o val h1 h2=>exact⟨_,_,w,K,rfl,.inl rfl,hx',.refl h⟩
  |fn f g l=>
   cases f with
   |func f=>
    simp only[iE,mF] at hv
    obtain⟨rfl,rfl⟩:=hv
    generalize a.eval x=cx at hx
    have hx':=hx
    cases hx with|fn _ _ _ av bv h1 h2 h3 h4=>exact⟨_,_,w,K,rfl,.inl rfl,hx',.refl h⟩
   |_=>simp at hv
  |_=>simp at hv
 ·rename_i op t x y _ hop
  simp only[aat,mF] at hv
  obtain⟨v',hv',rfl,rfl⟩:=hv
  simp only[hop]
  exact .bW h (Sl w x y (ev x) (ev y) hv')
 ·rename_i op t x hop
  simp only[aat,mF] at hv
  obtain⟨v',hv',rfl,rfl⟩:=hv
  simp only[hop]
  exact .bW h (Sm w (ev x) hv')
 ·rename_i s d x hop
  simp only[aat,mF] at hv
  obtain⟨v',hv',rfl,rfl⟩:=hv
  simp only[hop]
  exact .iD (Sq h hB (ev x) hv')
 ·rename_i t x hop
  simp only[iR] at hv
  obtain⟨⟨n,e⟩,hn,hv⟩:=hv
  have hu:=JV hn
  simp only[hop]
  have hx:=ev x
  generalize fr.ev E x=xv at hv hx
  generalize a.eval x=cx at hx
  cases xv with
  |vw loc s off len cap aA ag=>
   simp only at hv
   split at hv
   ·rename_i hle
    simp only[iE,mF] at hv
    obtain⟨rfl,rfl⟩:=hv
    cases hx with
    |dR=>omega
    |vw _ _ _ _ _ _ _ aL hA hcc hlc hsz=>
     have:¬(len<n):=by omega
     exact .bW h ⟨_,by simp[Instr.arrayAt,run_underlying hu,this],.ref loc s off hA⟩
   ·simp at hv
  |lst c l=>
   simp only at hv
   split at hv
   ·rename_i hc
    obtain⟨c1,c2,c3⟩:=hc
    simp only[iE,mF] at hv
    obtain⟨rfl,rfl⟩:=hv
    cases hx with
    |aT=>simp at c2;omega
    |lst _ _ b o m cap val hle hn hcell hrel hcap=>
     have hlt:¬(l.length<n):=by omega
     have hone:∀i,i<l.length->(l.getD i undefV).cells=[l.getD i undefV]:=fun i hi=>by
      simp only[oneCells,aeP] at c3
      have:=c3 _ (afc hi)
      rw[cB hi]
      revert this
      cases l[i]<;>simp[oneCell,V.cells]
     have hm:m=1:=by
      have h0:0<l.length:=by omega
      rw[<-hn 0 h0,hone 0 h0];rfl
     subst hm
     refine .bW h ⟨.pointer (some (at_ b (o+0))),by simp[Instr.arrayAt,run_underlying hu,hlt],.cref (l.take n) 0 b o (fun j=>val j 0) (fun j hj=>?_) (fun j hj=>?_)⟩
     ·have hj':j<l.length:=by rw[aev] at hj;omega
      have:=hcell j 0 hj' (by omega)
      simpa using this
     ·have hj':j<l.length:=by rw[aev] at hj;omega
      have hjn:j<n:=by rw[aev] at hj;omega
      have:=hrel j 0 hj' (by omega)
      rw[hone j hj'] at this
      have e:(l.take n).getD j undefV=l.getD j undefV:=by
       rw[ae5,ae5,List.getElem?_take_of_lt hjn]
      rw[e]
      simpa using this
   ·simp at hv
  |_=>simp at hv
 ·rename_i t x hop
  simp only[hop]
  split at hv
  ·simp at hv
  ·rename_i d hu hd
   simp only[iE,mF] at hv
   obtain⟨rfl,rfl⟩:=hv
   refine .bW h ⟨.iface t (a.eval x),?_,.iface t _ _ (ev x)⟩
   simp only[Instr.makeInterface,Sem.run_bind,run_underlying hd,Result.andThen_ok]
   rfl
  ·simp at hv
 ·rename_i f p q hop
  simp only[iE,mF] at hv
  obtain⟨rfl,rfl⟩:=hv
  simp only[hop]
  obtain⟨h1,h2⟩:=pR h hf p
  obtain⟨h3,h4⟩:=pR h hf q
  exact .bW h ⟨_,rfl,.fn f _ _ _ _ h1 h3 h2 h4⟩
 ·rename_i t hop
  simp only[aat,mF] at hv
  obtain⟨loc,_,rfl,rfl⟩:=hv
  simp only[hop]
  exact .iD (Tx h hB hst loc t)
 ·rename_i t l c hop
  simp only[hop]
  exact .iD (Tg h hB hst (ev l) (ev c) hv)
 ·rename_i t x lo hi mx hop
  simp only[aat,mF] at hv
  obtain⟨v',hv',rfl,rfl⟩:=hv
  simp only[hop]
  have opt:∀(p:Option Operand) v,bV E fr p=some v->∃c,p.map a.eval=some c/\Rel K σ.top w v c:=by
   intro p v hp
   cases p with
   |none=>simp[bV] at hp
   |some p=>
    simp only[bV,iE] at hp;subst hp
    exact⟨_,rfl,ev p⟩
  have EY:∀(p:Option Operand),bV E fr p=none->p.map a.eval=none:=by
   intro p hp
   cases p with
   |none=>rfl
   |some p=>simp[bV] at hp
  exact .bW h (Sn w rfl h (ev x) (opt lo) (EY lo) (opt hi) (EY hi) (opt mx) (EY mx) hv')
 ·rename_i t x f hop
  simp only[iR] at hv
  obtain⟨⟨o',u⟩,hfi,hv⟩:=hv
  simp only[hop]
  have hx:=ev x
  generalize fr.ev E x=xv at hv hx
  cases xv with
  |ref loc s off=>
   simp only[iE,mF] at hv
   obtain⟨rfl,rfl⟩:=hv
   exact .bW h (J4 hx hfi rfl)
  |cref cs off=>
   simp only[iE,mF] at hv
   obtain⟨rfl,rfl⟩:=hv
   exact .bW h (J4 hx hfi rfl)
  |_=>simp at hv
 ·rename_i t x f hop
  simp only[iR] at hv
  obtain⟨⟨o',u⟩,hfi,hv⟩:=hv
  simp only[hop]
  have hx:=ev x
  generalize fr.ev E x=xv at hv hx
  generalize a.eval x=cx at hx
  cases xv with
  |agg cs=>
   simp only[aat,mF] at hv
   obtain⟨v',hv',rfl,rfl⟩:=hv
   cases hx with|agg _ vs hl hr=>
   obtain⟨fs,g,n,hu,hg,rfl,rfl,hn⟩:=JX hfi
   obtain⟨c,r1,r2⟩:=rD (P:=E.P) (w:=w) hl hr hv'
   exact .bW h ⟨c,by simp[Instr.field,run_underlying hu,hg,asAgg,r1],r2⟩
  |_=>simp at hv
 ·rename_i t x i hop
  simp only[aat,mF] at hv
  obtain⟨v',hv',rfl,rfl⟩:=hv
  simp only[hop]
  exact .bW h (Sr (ev x) (ev i) hv')
 ·rename_i t x i hop
  simp only[aat,mF] at hv
  obtain⟨v',hv',rfl,rfl⟩:=hv
  simp only[hop]
  exact .bW h (Sv (ev x) (ev i) hv')
 ·rename_i t x i ok hop
  simp only[aat,mF] at hv
  obtain⟨v',hv',rfl,rfl⟩:=hv
  simp only[hop]
  exact .bW h (SA h (ev x) (ev i) hv')
 ·rename_i t m k x hop
  simp only[aat,mF] at hv
  obtain⟨σ1,hv',rfl,rfl⟩:=hv
  simp only[hop]
  obtain⟨w',r1,r2,_⟩:=J9 (new:=(· =st)) h hB (ev m) (ev k) (ev x) hv'
  exact .EX r1 r2
 ·rename_i t m k x hop
  simp only[aat,mF] at hv
  obtain⟨σ1,hv',rfl,rfl⟩:=hv
  simp only[hop]
  obtain⟨w',r1,r2,_⟩:=J9 (new:=(· =st)) h hB (ev m) (ev k) (ev x) hv'
  exact .EX r1 r2
 ·rename_i x i hop
  simp only[hop]
  have hx:=ev x
  generalize fr.ev E x=xv at hv hx
  generalize a.eval x=cx at hx
  cases xv with
  |tup vs=>
   simp only[aat,mF] at hv
   obtain⟨v',hv',rfl,rfl⟩:=hv
   cases hx with|tup _ KE hl hr=>
   have hi:i<vs.length:=(afn.1 hv').1
   have hi':i<KE.size:=by omega
   refine .bW h ⟨KE[i],by simp[Instr.extract,hi'],?_⟩
   have:=hr i hi
   rw[cB hi,rC hi'] at this
   have e:vs[i]=v':=(afn.1 hv').2
   rw[<-e];exact this
  |_=>simp at hv
 ·rename_i x xt t ok hop
  simp only[aat,mF] at hv
  obtain⟨v',hv',rfl,rfl⟩:=hv
  simp only[hop]
  exact .bW h (TA (ev x) hv')
 ·simp at hv
end
end Aq
end
section
namespace Aq
open Go Go.RowKit
section
variable {E:Env} {B0:Nat} {σ:Sig} {K:aB} {w:World} {new:Nat->Prop} {T:Nat->Nat}
def RelA (K:aB) (T:Nat->Nat) (w:World) (l:List V) (cl:Array Value):Prop:=l.length=cl.size/\∀i,i<l.length->Rel K T w (l.getD i undefV) (cl.getD i undef)
theorem EZ {x:V} {cl:Array Value} (h:RelA K T w [x] cl):∃c,cl= #[c]/\Rel K T w x c:=by
 obtain⟨h1,h2⟩:=h
 have hs:cl.size=1:=by simpa using h1.symm
 refine⟨cl[0],?_,?_⟩
 ·apply Array.ext
  ·simpa using hs
  ·intro i h1 h2
   obtain rfl:i=0:=by omega
   rfl
 ·have:=h2 0 (by simp)
  rwa[rC (by omega)] at this
theorem KF {x y:V} {cl:Array Value} (h:RelA K T w [x,y] cl):∃c d,cl= #[c,d]/\Rel K T w x c/\Rel K T w y d:=by
 obtain⟨h1,h2⟩:=h
 have hs:cl.size=2:=by simpa using h1.symm
 refine⟨cl[0],cl[1],?_,?_,?_⟩
 ·apply Array.ext
  ·simpa using hs
  ·intro i h1 h2
   have:i=0\/i=1:=by omega
   rcases this with rfl|rfl<;>rfl
 ·have:=h2 0 (by simp)
  rwa[rC (by omega)] at this
 ·have:=h2 1 (by simp)
  rwa[rC (by omega)] at this
theorem KG {x:V} {l:List V} {cl:Array Value} (h:RelA K T w (x::l) cl):∃c cs,cl.toList=c::cs/\Rel K T w x c/\l.length=cs.length/\∀i,i<l.length->Rel K T w (l.getD i undefV) (cs.getD i undef):=by
 obtain⟨h1,h2⟩:=h
 cases hc:cl.toList with
 |nil=>
  have:cl.size=0:=by rw[<-Array.length_toList,hc];rfl
  simp[this] at h1
 |cons c cs=>
  have hg:∀i,cl.getD i undef=(c::cs).getD i undef:=fun i=>by rw[<-hc,wE]
  have hl:cl.size=cs.length+1:=by rw[<-Array.length_toList,hc];rfl
  refine⟨c,cs,rfl,?_,by simp at h1;omega,fun i hi=>?_⟩
  ·have:=h2 0 (by simp)
   rw[hg] at this
   simpa using this
  ·have:=h2 (i+1) (by simp;omega)
   rw[hg] at this
   simpa using this
theorem TD (h:aC E B0 σ K w) (hB:B0<=w.heap.size) {om:Bool} {loc:Option Loc} {st:Nat} (hst:¬K.A st) {b:Builtin} {tys:Array TypeId} {ty:TypeId} {consts:Array Bool} {args:List V} {cargs:Array Value} {v:V} {σ':Sig}
 (hr:RelA K σ.top w args cargs) (hv:fP E om loc σ st b tys args=some (v,σ')):jc E B0 (· =st) σ K w (builtin b tys ty consts cargs) v σ':=by
 unfold fP at hv
 split at hv
 ·rename_i x
  simp only[iR,aat,mF] at hv
  obtain⟨t,ht,n,hn,rfl,rfl⟩:=hv
  obtain⟨c,rfl,hx⟩:=EZ hr
  exact .bW h ⟨_,Tt h ht hx hn,.int .i64 n⟩
 ·rename_i x
  simp only[iR] at hv
  obtain⟨t,ht,e,he,hv⟩:=hv
  obtain⟨c,rfl,hx⟩:=EZ hr
  obtain⟨rfl,r⟩:=Tv (ty:=ty) ht (pO he) hv hx
  exact .bW h r
 ·rename_i x y
  simp only[iR] at hv
  obtain⟨t,ht,u,⟨tx,htx,hu⟩,hv⟩:=hv
  obtain⟨c,d,rfl,hx,hy⟩:=KF hr
  have he:Builtin.append_ tys ty #[c,d]=Builtin.append_ #[t,tx] ty #[c,d]:=by simp[Builtin.append_,ht,htx]
  show jc E B0 _ σ K w (do pure (.value (<-Builtin.append_ tys ty #[c,d]))) v σ'
  rw[he]
  split at hv
  ·rename_i k
   exact .iD (EW h hB hst hx hy (fun _=>⟨k,hu⟩) (fun hf=>by cases hf) hv)
  ·rename_i e
   exact .iD (EW h hB hst hx hy (fun hf=>by cases hf) (fun _=>.inl ⟨e,hu⟩) hv)
  ·exact .iD (EW h hB hst hx hy (fun hf=>by cases hf) (fun _=>.inr hu) hv)
  ·simp at hv
 ·rename_i x y
  simp only[iR] at hv
  obtain⟨t,ht,hv⟩:=hv
  obtain⟨c,d,rfl,hx,hy⟩:=KF hr
  have he:Builtin.copy_ tys ty #[c,d]=Builtin.copy_ #[t,t] ty #[c,d]:=by simp[Builtin.copy_,ht]
  show jc E B0 _ σ K w (do pure (.value (<-Builtin.copy_ tys ty #[c,d]))) v σ'
  rw[he]
  exact .iD (Tn h hB hx hy hv)
 ·rename_i x
  simp only[iR] at hv
  obtain⟨t,ht,hv⟩:=hv
  obtain⟨c,rfl,hx⟩:=EZ hr
  have he:Builtin.clear_ tys ty #[c]=Builtin.clear_ #[t] ty #[c]:=by simp[Builtin.clear_,ht]
  show jc E B0 _ σ K w (do pure (.value (<-Builtin.clear_ tys ty #[c]))) v σ'
  rw[he]
  exact .iD (Tq h hB hx hv)
 ·rename_i x l
  simp only[aat,mF] at hv
  obtain⟨v',hv',rfl,rfl⟩:=hv
  obtain⟨c,cs,hc,hx,hl,hrel⟩:=KG hr
  obtain⟨c',r1,r2⟩:=Kv l cs x v' c hl hrel hx hv'
  have he:Builtin.min_ tys ty cargs=cs.foldlM Builtin.min2 c:=by unfold Builtin.min_;rw[hc]
  exact .bW (s:=Builtin.min_ tys ty cargs) h ⟨c',by rw[he];exact r1,r2⟩
 ·rename_i x l
  simp only[aat,mF] at hv
  obtain⟨v',hv',rfl,rfl⟩:=hv
  obtain⟨c,cs,hc,hx,hl,hrel⟩:=KG hr
  obtain⟨c',r1,r2⟩:=Kw l cs x v' c hl hrel hx hv'
  have he:Builtin.max_ tys ty cargs=cs.foldlM Builtin.max2 c:=by unfold Builtin.max_;rw[hc]
  exact .bW (s:=Builtin.max_ tys ty cargs) h ⟨c',by rw[he];exact r1,r2⟩
 ·simp at hv
end
end Aq
end
section
namespace Aq
open Go Go.RowKit
def FW (ro:Option Nat):Fence:={Fence.wide with round:=ro}
structure rV where
 l:List Deferred
 B:Nat
 nm:Bool
def mark (b:Nat):Deferred:=⟨.collected b, #[]⟩
structure St (E:Env) (B0:Nat) (σ:Sig) (K:aB) (w:World) (fr:Fr) (a:Act) (n:Nat) (ds:rV):Prop where
 ok:aC E B0 σ K w
 hB:B0<=w.heap.size
 fr:dK K σ.top w fr a.tmps
 sz:a.tmps.size=n
 df:∃bs:List Nat,a.defers=bs.map mark++ds.l/\bs.Nodup/\(∀b∈bs,K.D b/\ds.B<=b)/\(ds.nm=true->bs=[])
 st:∀s,K.A s->s<σ.next
 hD:ds.B<=w.heap.size
def dV:Ex->Exit->Prop
 |.normal,.normal=>True
 |.exit i,.exit j=>i=j
 |.ret,.ret=>True
 |_,_=>False
def newer (σ σ':Sig) (s:Nat):Prop:=σ.next<=s/\s<σ'.next
def pU (E:Env) (B0 n:Nat) (ds:rV) (σ:Sig) (K:aB) (w:World) (e:Ex) (fr':Fr) (σ':Sig):Exit->Act->World->Prop:=
 fun x a' w'=>dV e x/\∃K',St E B0 σ' K' w' fr' a' n ds/\Step E B0 (newer σ σ') σ K w σ' K' w'
def rW (E:Env) (code:Code->Fr->Sig->Option (Ex×Fr×Sig)):Prop:=
 ∀c fr σ e fr' σ',code c fr σ=some (e,fr',σ')->σ.next<=σ'.next/\∀ro B0 K w a n ds,St E B0 σ K w fr a n ds->bE n c=true->(ro=none/\ds.nm=false\/bU c=true)->c.wpIn (FW ro) 0 E.P (pU E B0 n ds σ K w e fr' σ') a w
def jI (E:Env) (B0:Nat) (σ:Sig) (K:aB) (w:World) (v:V) (σ':Sig):Ending->World->Prop
 |.returned c,w'=>∃K',Rel K' σ'.top w' v c/\aC E B0 σ' K' w'/\(∀s,K'.A s->s<σ'.next)/\Step E B0 (newer σ σ') σ K w σ' K' w'
 |_,_=>False
def rX (E:Env) (f:FuncId):Prop:=∃fn c,E.P.funcs[f]? =some fn/\fn.body=some c
def pV (E:Env) (call:FuncId->List V->Nat->Sig->Option (V×Sig)):Prop:=
 ∀f args d σ v σ',call f args d σ=some (v,σ')->σ.next<=σ'.next/\rX E f/\∀ro B0 K w cargs,aC E B0 σ K w->B0<=w.heap.size->(∀s,K.A s->s<σ.next)->RelA K σ.top w args cargs->
  CallsIn (FW ro) 0 E.P f cargs w (jI E B0 σ K w v σ')
structure Sound (E:Env) (S:bH):Prop where
 code:rW E S.code
 call:pV E S.call
theorem Step.widen {E:Env} {B0:Nat} {σ σ1 σ2:Sig} {K K1 K2:aB} {w w1 w2:World} (h:Step E B0 (newer σ σ1) σ K w σ1 K1 w1) (g:Step E B0 (newer σ1 σ2) σ1 K1 w1 σ2 K2 w2)
 (h1:σ.next<=σ1.next) (h2:σ1.next<=σ2.next):Step E B0 (newer σ σ2) σ K w σ2 K2 w2:=
 (h.mono (fun _ hs=>⟨hs.1,aeD hs.2 h2⟩)).trans (g.mono (fun _ hs=>⟨aaI h1 hs.1,hs.2⟩))
end Aq
end
section
open Go
namespace Aq
section
variable {F:Fence} {n:Nat} {P:Program} {Q:Exit->Act->World->Prop} {b:Frame} {k:List Item} {cs:List Frame} {a:Act} {w:World}
theorem rY {c:Code}:step P (lone (b.atR a (.code (.scope c)::k)) cs w)= .next (lone (b.atR a (.code c:: .inScope c::k)) cs w):=
 step_lone_go (by simp[stepG,stepG.exec,Frame.atR])
theorem TF {c:Code}:step P (lone (b.atR a (.inScope c::k)) cs w)= .next (lone (b.atR a k) cs w):=
 step_lone_go (by simp[stepG,stepG.exec,Frame.atR])
theorem TG {c:Code} (h:c.wpIn F n P (Exit.noGoto Q) a w):(Code.scope c).wpIn F n P Q a w:=by
 intro b k cs hro hb hr
 have h0:(lone (b.atR a (.code (.scope c)::k)) cs w).fenced P F:=fenced_calm hb hr rfl
 obtain⟨e,a₁,w₁,hq,harr⟩:=h b (.inScope c::k) cs hro hb hr
 cases e with
 |normal=>exact⟨.normal,a₁,w₁,hq,.head h0 rY (StepsIn.trans harr (.one (fenced_calm hb hr rfl) TF))⟩
 |exit id'=>
  have hx:exitTo id' (.inScope c::k)=exitTo id' k:=by simp[exitTo]
  exact⟨.exit id',a₁,w₁,hq,fun k' hk=>.head h0 rY (harr.1 k' (by rw[hx];exact hk)),
   fun hr' hk=>let ⟨k₁,h1,h2⟩:=harr.2 hr' (by rw[hx];exact hk);⟨k₁,h1,.head h0 rY h2⟩⟩
 |goto l=>exact hq.elim
 |ret=>exact⟨_,a₁,w₁,hq,.of_steps (.one h0 rY) harr⟩
 |panic ch=>exact⟨_,a₁,w₁,hq,.of_steps (.one h0 rY) harr⟩
 |outgrown=>exact⟨_,a₁,w₁,hq,.of_steps (.one h0 rY) harr⟩
end
end Aq
end
section
namespace Aq
open Go Go.RowKit
section
variable {E:Env} {B0:Nat} {σ:Sig} {K:aB} {w:World} {fr:Fr} {a:Act} {n:Nat} {ds:rV}
def fD (E:Env) (c:Code) (fr:Fr) (σ:Sig) (e:Ex) (fr':Fr) (σ':Sig):Prop:=
 σ.next<=σ'.next/\∀ro B0 K w a n ds,St E B0 σ K w fr a n ds->bE n c=true->(ro=none/\ds.nm=false\/bU c=true)->c.wpIn (FW ro) 0 E.P (pU E B0 n ds σ K w e fr' σ') a w
theorem TH:fD E .skip fr σ .normal fr σ:=
 ⟨iP _,fun _ _ K _ _ _ _ h _ _=>wpIn_skip ⟨trivial,K,h,.refl h.ok⟩⟩
theorem TI (id:Nat):fD E (.exit id) fr σ (.exit id) fr σ:=
 ⟨iP _,fun _ _ K _ _ _ _ h _ _=>wpIn_exit ⟨rfl,K,h,.refl h.ok⟩⟩
theorem TJ:fD E .ret fr σ .ret fr σ:=
 ⟨iP _,fun _ _ K _ _ _ _ h _ _=>wpIn_ret ⟨trivial,K,h,.refl h.ok⟩⟩
theorem TK (l:Nat):fD E (.label l) fr σ .normal fr σ:=
 ⟨iP _,fun _ _ K _ _ _ _ h _ _=>wpIn_label ⟨trivial,K,h,.refl h.ok⟩⟩
theorem TL {c:Code} {e:Ex} {aD:Fr} {σ1:Sig} (h:fD E c fr σ e aD σ1):fD E (.scope c) fr σ e aD σ1:=by
 refine⟨h.1,fun ro B0 K w a n ds hs hok hnr=>TG (wpIn_mono (h.2 ro B0 K w a n ds hs hok hnr) ?_)⟩
 rintro x a1 w1 ⟨hx,hr⟩
 cases x with
 |goto l=>cases e<;>simp only[dV] at hx
 |_=>exact⟨hx,hr⟩
theorem pU.widen {σ1 σ2:Sig} {K1:aB} {w1:World} {e:Ex} {fr':Fr} (h:Step E B0 (newer σ σ1) σ K w σ1 K1 w1) (h1:σ.next<=σ1.next) (h2:σ1.next<=σ2.next):
 ∀x a' w',pU E B0 n ds σ1 K1 w1 e fr' σ2 x a' w'->pU E B0 n ds σ K w e fr' σ2 x a' w':=by
 rintro x a' w' ⟨g1,K2,g2,g3⟩
 exact⟨g1,K2,g2,h.widen g3 h1 h2⟩
theorem TM {c d:Code} {e:Ex} {aD bA:Fr} {σ1 σ2:Sig} (h:fD E c fr σ .normal aD σ1) (g:fD E d aD σ1 e bA σ2):fD E (.seq c d) fr σ e bA σ2:=by
 refine⟨aaI h.1 g.1,fun ro B0 K w a n ds hs hok hnr=>?_⟩
 simp only[bE,RS] at hok
 simp only[bU,RS] at hnr
 refine wpIn_seq (wpIn_mono (h.2 ro B0 K w a n ds hs hok.1 (hnr.imp id And.left)) ?_)
 rintro x a1 w1 ⟨hx,K1,s1,st1⟩
 cases x<;>simp only[dV] at hx
 exact wpIn_mono (g.2 ro B0 K1 w1 a1 n ds s1 hok.2 (hnr.imp id And.right)) (pU.widen st1 h.1 g.1)
theorem KH {c d:Code} {e:Ex} {aD:Fr} {σ1:Sig} (he:e≠ .normal) (h:fD E c fr σ e aD σ1):fD E (.seq c d) fr σ e aD σ1:=by
 refine⟨h.1,fun ro B0 K w a n ds hs hok hnr=>?_⟩
 simp only[bE,RS] at hok
 simp only[bU,RS] at hnr
 refine wpIn_seq (wpIn_mono (h.2 ro B0 K w a n ds hs hok.1 (hnr.imp id And.left)) ?_)
 rintro x a1 w1 ⟨hx,K1,s1,st1⟩
 cases e<;>cases x<;>simp only[dV] at hx
 ·exact absurd rfl he
 ·exact⟨hx,K1,s1,st1⟩
 ·exact⟨hx,K1,s1,st1⟩
theorem TN {c:Operand} {x y:Code} {t:Bool} {e:Ex} {aD:Fr} {σ1:Sig} (hc:jX (fr.ev E c)=some t) (h:fD E (if t then x else y) fr σ e aD σ1):fD E (.cond c x y) fr σ e aD σ1:=by
 refine⟨h.1,fun ro B0 K w a n ds hs hok hnr=>?_⟩
 simp only[bE,RS] at hok
 simp only[bU,RS] at hnr
 refine wpIn_cond (Ky (mo hs.ok hs.fr c) hc) (h.2 ro B0 K w a n ds hs ?_ ?_)
 ·cases t
  ·exact hok.2
  ·exact hok.1
 ·cases t
  ·exact hnr.imp id And.right
  ·exact hnr.imp id And.left
def E8 (id:Nat):Ex->Ex
 |.exit i=>if i=id then .normal else .exit i
 |e=>e
theorem TQ {id:Nat} {c:Code} {e:Ex} {aD:Fr} {σ1:Sig} (h:fD E c fr σ e aD σ1):fD E (.block id c) fr σ (E8 id e) aD σ1:=by
 refine⟨h.1,fun ro B0 K w a n ds hs hok hnr=>wpIn_block (wpIn_mono (h.2 ro B0 K w a n ds hs hok hnr) ?_)⟩
 rintro x a1 w1 ⟨hx,K1,s1,st1⟩
 cases e with
 |normal=>cases x<;>simp only[dV] at hx;exact⟨trivial,K1,s1,st1⟩
 |ret=>cases x<;>simp only[dV] at hx;exact⟨trivial,K1,s1,st1⟩
 |exit i=>
  cases x<;>simp only[dV] at hx
  subst hx
  simp only[Exit.inBlock,E8]
  split
  ·exact⟨trivial,K1,s1,st1⟩
  ·exact⟨rfl,K1,s1,st1⟩
end
end Aq
end
section
namespace Aq
open Go Go.RowKit
section
variable {E:Env} {B0:Nat} {σ σ':Sig} {K K':aB} {w w':World} {fr:Fr} {a:Act} {n:Nat} {ds:rV}
theorem dK.put {T:Nat->Nat} (h:dK K T w fr a.tmps) {d:Option Nat} {v:V} {c:Value} (hr:Rel K T w v c) (hd:∀i,d=some i->i<a.tmps.size):dK K T w (fr.put d v) (a.put d c).tmps:=by
 cases d with
 |none=>exact h
 |some i=>
  have hi:=hd i rfl
  intro t
  show Rel K T w (upd fr.tm i v t) ((a.tmps.setIfInBounds i c).getD t undef)
  by_cases ht:t=i
  ·subst ht
   rw[upd_same]
   have:(a.tmps.setIfInBounds t c).getD t undef=c:=by simp[Array.getD,hi]
   rw[this];exact hr
  ·rw[upd_ne _ _ ht]
   have:(a.tmps.setIfInBounds i c).getD t undef=a.tmps.getD t undef:=by
    simp only[Array.getD,Array.size_setIfInBounds]
    split
    ·rename_i hlt
     show (a.tmps.setIfInBounds i c)[t]'(by simpa using hlt)=a.tmps[t]
     rw[Array.getElem_setIfInBounds_ne hlt (Ne.symm ht)]
    ·rfl
   rw[this];exact h t
theorem TS (a:Act) (d:Option Nat) (c:Value):(a.put d c).tmps.size=a.tmps.size:=by cases d<;>simp[Act.put]
theorem put_defers (a:Act) (d:Option Nat) (c:Value):(a.put d c).defers=a.defers:=by cases d<;>rfl
theorem St.put (h:St E B0 σ K w fr a n ds) {new:Nat->Prop} {d:Option Nat} {v:V} {c:Value} (hs:Step E B0 new σ K w σ' K' w') (hr:Rel K' σ'.top w' v c) (hd:∀i,d=some i->i<n) (hst:∀s,K'.A s->s<σ'.next):
 St E B0 σ' K' w' (fr.put d v) (a.put d c) n ds:=
 ⟨hs.ok,aaI h.hB hs.below.size,dK.put (h.fr.ext hs.ext) hr (fun i hi=>by rw[h.sz];exact hd i hi),by rw[TS];exact h.sz,by obtain⟨bs,h1,h2,h3,h4⟩:=h.df;exact⟨bs,by rw[put_defers];exact h1,h2,fun b hb=>⟨hs.D b (h3 b hb).1,(h3 b hb).2⟩,h4⟩,hst,aaI h.hD hs.below.size⟩
theorem Av {o:Oper} (ro:Option Nat) (ρ:Operand->Value) (h:∀c,o.op≠ .defer c):o.semAt ro ρ=execOp ρ o:=by
 unfold Oper.semAt
 split
 ·rename_i c hc
  exact absurd hc (h c)
 ·rfl
theorem TT {o:Oper} {ro:Option Nat} {new:Nat->Prop} {v:V} {next:Act->World->Prop} {Q:Exit->Act->World->Prop} (ho:∀c,o.op≠ .defer c) (hd:jc E B0 new σ K w (execOp a.eval o) v σ')
 (hn:∀c w' K',Rel K' σ'.top w' v c->Step E B0 new σ K w σ' K' w'->next (a.put o.dst c) w'):o.wpIn (FW ro) 0 E.P a w next Q:=by
 refine⟨fun f _=>trivial,?_⟩
 obtain⟨nx,c,w',K',h1,h2,h3,h4⟩:=hd
 rw[Av _ _ ho,h1]
 rcases h2 with rfl| ⟨rfl,rfl⟩
 ·exact hn c w' K' h3 h4
 ·exact hn undef w' K' h3 h4
end
end Aq
end
section
namespace Aq
open Go Go.RowKit
def iF (σ σ':Sig):Prop:=σ'.next=σ.next/\σ'.loops=σ.loops
theorem iF.refl (σ:Sig):iF σ σ:=⟨rfl,rfl⟩
section
variable {E:Env} {σ σ':Sig} {fr:Fr}
theorem TU {t:TypeId} {m k v:V} (h:iV E.P σ t m k v=some σ'):iF σ σ':=by
 simp only[iV,iR] at h
 obtain⟨⟨kt,et⟩,_,h⟩:=h
 split at h
 ·cases m<;>simp only[reduceCtorEq] at h
  simp only[iR,aat] at h
  obtain⟨_,_,_,_,rfl⟩:=h
  exact⟨rfl,rfl⟩
 ·simp at h
theorem TW {om:Bool} {st:Nat} {loc:Option Loc} {t:TypeId} {l c v:V} (h:jW E.P om σ st loc t l c=some (v,σ')):iF σ σ':=by
 simp only[jW,iR] at h
 obtain⟨_,_,_,_,_,_,_,_,_,_,_,_,h⟩:=h
 split at h
 ·split at h
  ·simp only[iE,mF] at h
   obtain⟨_,rfl⟩:=h
   exact⟨rfl,rfl⟩
  ·simp only[iR,aat,mF] at h
   obtain⟨_,_,_,_,_,rfl⟩:=h
   exact⟨rfl,rfl⟩
 ·simp at h
theorem TY {t:TypeId} {x y v:V} (h:copyV E.P σ t x y=some (v,σ')):iF σ σ':=by
 simp only[copyV,iR] at h
 obtain⟨_,_,_,_,_,_,h⟩:=h
 split at h
 ·simp only[iR] at h
  obtain⟨_,_,h⟩:=h
  split at h
  ·split at h
   ·simp only[iR] at h
    obtain⟨_,_,h⟩:=h
    split at h
    ·simp only[iE,mF] at h
     obtain⟨_,rfl⟩:=h
     exact⟨rfl,rfl⟩
    ·simp at h
   ·simp only[iE,mF] at h
    obtain⟨_,rfl⟩:=h
    exact⟨rfl,rfl⟩
   ·simp at h
  ·simp at h
 ·simp at h
theorem E9 {om zeros:Bool} {st:Nat} {loc:Option Loc} {t:TypeId} {x y v:V} (h:dD E.P om zeros σ st loc t x y=some (v,σ')):iF σ σ':=by
 simp only[dD,iR] at h
 obtain⟨_,_,_,_,_,_,_,_,_,_,h⟩:=h
 split at h
 ·simp only[iR] at h
  obtain⟨_,_,h⟩:=h
  split at h
  ·split at h
   ·split at h
    ·split at h
     all_goals first
      | (simp only[aat,mF] at h;obtain⟨_,_,_,rfl⟩:=h;exact⟨rfl,rfl⟩)
      | (simp only[iE,mF] at h;obtain⟨_,rfl⟩:=h;exact⟨rfl,rfl⟩)
      | (split at h
         ·simp at h
         ·simp only[aat,mF] at h;obtain⟨_,_,_,rfl⟩:=h;exact⟨rfl,rfl⟩)
      | (split at h
         ·simp only[iE,mF] at h;obtain⟨_,rfl⟩:=h;exact⟨rfl,rfl⟩
         ·simp only[aat,mF] at h;obtain⟨_,_,_,rfl⟩:=h;exact⟨rfl,rfl⟩)
      | (split at h
         ·simp only[iE,mF] at h;obtain⟨_,rfl⟩:=h;exact⟨rfl,rfl⟩
         ·simp at h)
      |simp at h
    ·simp at h
   ·split at h
    ·simp only[iR] at h
     obtain⟨_,_,_,_,h⟩:=h
     split at h
     ·split at h
      ·simp only[iE,mF] at h;obtain⟨_,rfl⟩:=h;exact⟨rfl,rfl⟩
      ·simp at h
     ·split at h
      ·simp only[iE,mF] at h;obtain⟨_,rfl⟩:=h;exact⟨rfl,rfl⟩
      ·simp at h
    ·simp at h
   ·simp at h
  ·simp at h
 ·simp at h
theorem T9 {t:TypeId} {x v:V} (h:jV E.P σ t x=some (v,σ')):iF σ σ':=by
 simp only[jV,iR] at h
 obtain⟨_,_,_,_,_,_,_,_,h⟩:=h
 split at h
 ·split at h
  ·simp only[iR] at h
   obtain⟨_,_,h⟩:=h
   split at h
   ·split at h<;>(simp only[iE,mF] at h;obtain⟨_,rfl⟩:=h;exact⟨rfl,rfl⟩)
   ·simp at h
  ·simp only[iE,mF] at h;obtain⟨_,rfl⟩:=h;exact⟨rfl,rfl⟩
  ·simp at h
 ·simp at h
theorem KJ {om:Bool} {st:Nat} {loc:Option Loc} {b:Builtin} {tys:Array TypeId} {args:List V} {v:V} (h:fP E om loc σ st b tys args=some (v,σ')):iF σ σ':=by
 unfold fP at h
 split at h
 ·simp only[iR,aat,mF] at h
  obtain⟨_,_,_,_,_,rfl⟩:=h;exact .refl _
 ·simp only[iR] at h
  obtain⟨_,_,_,_,h⟩:=h
  split at h
  ·simp only[iE,mF] at h;obtain⟨_,rfl⟩:=h;exact .refl _
  ·simp only[iE,mF] at h;obtain⟨_,rfl⟩:=h;exact .refl _
  ·simp at h
 ·simp only[iR] at h
  obtain⟨_,_,_,_,h⟩:=h
  split at h
  ·exact E9 h
  ·exact E9 h
  ·exact E9 h
  ·simp at h
 ·simp only[iR] at h
  obtain⟨_,_,h⟩:=h
  exact TY h
 ·simp only[iR] at h
  obtain⟨_,_,h⟩:=h
  exact T9 h
 ·simp only[aat,mF] at h
  obtain⟨_,_,_,rfl⟩:=h;exact .refl _
 ·simp only[aat,mF] at h
  obtain⟨_,_,_,rfl⟩:=h;exact .refl _
 ·simp at h
theorem Ua {x v:V} (h:jY σ x=some (v,σ')):iF σ σ':=by
 unfold jY at h
 split at h
 ·simp only[iR] at h
  obtain⟨_,_,h⟩:=h
  split at h
  ·simp only[iE,mF] at h;obtain⟨_,rfl⟩:=h;exact⟨rfl,rfl⟩
  ·simp at h
 ·simp only[iE,mF] at h;obtain⟨_,rfl⟩:=h;exact .refl _
 ·simp only[iE,mF] at h;obtain⟨_,rfl⟩:=h;exact .refl _
theorem Ub {st:Nat} {loc:Option Loc} {t:TypeId} {len:Nat} {ps:List (Nat×V)} {v:V} (h:nK E σ st loc t len ps=some (v,σ')):iF σ σ':=by
 simp only[nK,iR] at h
 obtain⟨_,_,_,_,_,_,_,_,h⟩:=h
 split at h
 ·simp only[iR,aat,mF] at h
  obtain⟨_,_,_,_,_,rfl⟩:=h
  exact⟨rfl,rfl⟩
 ·simp at h
theorem KL {st:Nat} {o:Oper} {v:V} (h:opV E fr σ st o=some (v,σ')):iF σ σ':=by
 unfold opV at h
 split at h
 all_goals first
  |exact TW h
  | (split at h<;>first
      |exact Ua h
      |exact Ub h
      | (simp only[aat,mF] at h;obtain⟨_,_,_,rfl⟩:=h;exact⟨rfl,rfl⟩)
      | (simp only[iE,mF] at h;obtain⟨_,rfl⟩:=h;exact .refl _))
  | (simp only[iE,mF] at h;obtain⟨_,rfl⟩:=h;exact .refl _)
  | (simp only[aat,mF] at h;obtain⟨_,_,_,rfl⟩:=h;exact⟨rfl,rfl⟩)
  | (simp only[aat,mF] at h;obtain⟨_,h1,_,rfl⟩:=h;exact TU h1)
  | (simp only[iR,aat,mF] at h;obtain⟨_,_,_,_,_,_,_,rfl⟩:=h;exact⟨rfl,rfl⟩)
  |simp at h
  | (simp only[iR] at h
     obtain⟨_,_,h⟩:=h
     split at h
     ·simp only[iE,mF] at h;obtain⟨_,rfl⟩:=h;exact⟨rfl,rfl⟩
     ·simp at h)
  |skip
 all_goals
  repeat' first
   |exact⟨rfl,rfl⟩
   | (obtain⟨_,_,h⟩:=h)
   | (simp only[iR] at h)
   |split at h
   | (simp only[iE,mF] at h;obtain⟨_,rfl⟩:=h;exact⟨rfl,rfl⟩)
   | (simp only[aat,mF] at h;obtain⟨_,_,_,rfl⟩:=h;exact⟨rfl,rfl⟩)
   | (simp at h;done)
end
end Aq
end
section
namespace Aq
open Go Go.RowKit
def aB.lend (I:Nat->Nat->Prop) (IM:Nat->Prop):aB:=
 {A:=fun _=>False,blk:=fun _=>0,sz:=fun _=>0,ob:=fun _=>0,lo:=fun _=>0,hi:=fun _=>0,lp:=fun _=>0,I:=I,IM:=IM,D:=fun _=>False,ρ:=fun _=>none}
def grow (I:Nat->Nat->Prop) (B:Nat) (w:World) (b o:Nat):Prop:=(I b o\/B<=b)/\∃v,w.cell? (at_ b o)=some v
def j6 (IM:Nat->Prop) (B:Nat) (w:World) (b:Nat):Prop:=(IM b\/B<=b)/\∃es aH,w.heap[b]? =some (.map es aH)
theorem jd:∀{l:List V},pcleanL l=true->∀i,i<l.length->pclean (l.getD i undefV)=true
 |v::l,h,0,_=>by simp only[pcleanL,RS] at h;exact h.1
 |v::l,h,i+1,hi=>by simp only[pcleanL,RS] at h;exact jd h.2 i (by simpa using hi)
theorem Fa:∀{l:List V},dz l=true->∀i,i<l.length->flat (l.getD i undefV)=true
 |v::l,h,0,_=>by simp only[dz,RS] at h;exact h.1
 |v::l,h,i+1,hi=>by simp only[dz,RS] at h;exact Fa h.2 i (by simpa using hi)
theorem Fe {v:V} (h:pclean v=true) {j:Nat} (hj:j<v.cells.length):pclean (v.cells.getD j undefV)=true:=by
 cases v with
 |agg cs=>exact jd (l:=cs) (by simpa [pclean] using h) j hj
 |_=>
  have:j=0:=by simpa [V.cells] using hj
  subst this;exact h
section
variable {K K':aB} {T T':Nat->Nat} {w w':World}
theorem Rel.pure {v:V} {c:Value} (h:Rel K T w v c) (hp:pclean v=true) (hI:∀b o,K.I b o->K'.I b o/\w'.cell? (at_ b o)=w.cell? (at_ b o))
 (hM:∀b,K.IM b->K'.IM b/\w'.heap[b]? =w.heap[b]?):Rel K' T' w' v c:=by
 induction h with
 |int k n=>exact .int k n
 |bool b=>exact .bool b
 |str s b h=>exact .str s b h
 |nilp=>exact .nilp
 |nilf=>exact .nilf
 |nilm=>exact .nilm
 |nili=>exact .nili
 |agg cs vs hl _ ih=>exact .agg cs vs hl (fun i hi=>ih i hi (jd (by simpa [pclean] using hp) i hi))
 |tup cs vs hl _ ih=>exact .tup cs vs hl (fun i hi=>ih i hi (jd (by simpa [pclean] using hp) i hi))
 |aT c a ha hc=>
  cases c<;>simp only[pclean,aaB] at hp
  exact .aT .sh a (fun h=>by cases h) trivial
 |lst c l b o n cap val hle hn hcell _ hc ih=>
  cases c<;>simp only[pclean,aaB] at hp
  refine .lst .sh l b o n cap val hle hn (fun i j hi hj=>?_) (fun i j hi hj=>ih i j hi hj (Fe (jd hp i hi) (by rw[hn i hi];exact hj))) trivial
  obtain⟨h1,h2⟩:=hcell i j hi hj
  obtain⟨g1,g2⟩:=hI _ _ h2
  exact⟨g2.trans h1,g1⟩
 |vw loc s off len cap aA ag aL hA hc hle hsz=>simp[pclean] at hp
 |dR loc s aA ag hA=>simp[pclean] at hp
 |cref cs off b o val hcell _ ih=>
  refine .cref cs off b o val (fun j hj=>?_) (fun j hj=>ih j hj (jd (by simpa [pclean] using hp) j hj))
  obtain⟨h1,h2⟩:=hcell j hj
  obtain⟨g1,g2⟩:=hI _ _ h2
  exact⟨g2.trans h1,g1⟩
 |ref loc s off hA=>simp[pclean] at hp
 |fn f a b av bv ha hb _ _ iha ihb=>
  simp only[pclean,RS] at hp
  exact .fn f a b av bv ha hb (fun i hi=>iha i hi (jd hp.1 i hi)) (fun i hi=>ihb i hi (jd hp.2 i hi))
 |yield l hA=>simp[pclean] at hp
 |mapr loc s hA=>simp[pclean] at hp
 |mapc ks vs b es aH hM' hb hk hv _ _ ihk wh=>
  simp only[pclean,RS] at hp
  obtain⟨g1,g2⟩:=hM b hM'
  exact .mapc ks vs b es aH g1 (g2.trans hb) hk hv (fun i hi=>ihk i hi (jd hp.1 i (by omega))) (fun i hi=>wh i hi (jd hp.2 i (by omega)))
 |iface t v c _ ih=>exact .iface t v c (ih (by simpa [pclean] using hp))
 |raw v=>simp[pclean] at hp
theorem Rel.flat {v:V} {c:Value} (h:Rel K T w v c) (hp:flat v=true):Rel K' T' w' v c:=by
 induction h with
 |int k n=>exact .int k n
 |bool b=>exact .bool b
 |str s b h=>exact .str s b h
 |nilp=>exact .nilp
 |nilf=>exact .nilf
 |nilm=>exact .nilm
 |nili=>exact .nili
 |agg cs vs hl _ ih=>exact .agg cs vs hl (fun i hi=>ih i hi (Fa (by simpa [Aq.flat] using hp) i hi))
 |tup cs vs hl _ ih=>exact .tup cs vs hl (fun i hi=>ih i hi (Fa (by simpa [Aq.flat] using hp) i hi))
 |_=>simp[Aq.flat] at hp
theorem Uc {cs:List V} {vs:Array Value} (h:Rel K T w (.agg cs) (.agg vs)):cs.length=vs.size/\∀i,i<cs.length->Rel K T w (cs.getD i undefV) (vs.getD i undef):=by
 cases h with
 |agg _ _ hl h=>exact⟨hl,h⟩
theorem Ud {n:Nat} {σ:Sig} {cs:List V} {v:V} (h:closeV n σ (.agg cs)=some v):∃cs',v= .agg cs':=by
 cases n with
 |zero=>simp[closeV] at h
 |succ n=>
  unfold closeV at h
  split at h
  ·simp only[iE] at h;exact⟨cs,h.symm⟩
  ·simp only[aat] at h;obtain⟨cs',_,rfl⟩:=h;exact⟨cs',rfl⟩
theorem Ue {n:Nat} {σ:Sig} {x v:V} (hx:∀cs,x≠ .agg cs) (h:closeV n σ x=some v):v.cells=[v]/\x.cells=[x]:=by
 have h2:x.cells=[x]:=by cases x<;>first|rfl|exact absurd rfl (hx _)
 refine⟨?_,h2⟩
 cases n with
 |zero=>simp[closeV] at h
 |succ n=>
  unfold closeV at h
  split at h
  ·simp only[iE] at h;subst h;exact h2
  ·split at h
   all_goals try (simp only[reduceCtorEq] at h;done)
   all_goals try (simp only[aat] at h;obtain⟨_,_,rfl⟩:=h;first|rfl|exact absurd rfl (hx _))
   all_goals try (simp only[iR,aat] at h;obtain⟨_,_,_,_,rfl⟩:=h;rfl)
   ·simp only[iR] at h
    obtain⟨_,_,h⟩:=h
    split at h
    ·simp only[iR] at h
     obtain⟨_,_,h⟩:=h
     split at h
     ·simp only[iE] at h;subst h;rfl
     ·simp at h
    ·simp at h
   ·simp only[iR] at h
    obtain⟨⟨ks,vs⟩,_,h⟩:=h
    simp only[iR,aat] at h
    obtain⟨_,_,_,_,rfl⟩:=h;rfl
theorem Fg {E:Env} {B0:Nat} {σ:Sig} (h:aC E B0 σ K w):∀(n:Nat) (v v':V) (c:Value),Rel K σ.top w v c->closeV n σ v=some v'->
 Rel (aB.lend (grow K.I B0 w) (j6 K.IM B0 w)) T' w v' c:=by
 have mG:∀b o,K.I b o->grow K.I B0 w b o/\w.cell? (at_ b o)=w.cell? (at_ b o):=fun b o hi=>⟨⟨.inl hi,(h.I b o hi).1⟩,rfl⟩
 have nO:∀b,K.IM b->j6 K.IM B0 w b/\w.heap[b]? =w.heap[b]? :=fun b hi=>⟨⟨.inl hi,(h.IM b hi).1⟩,rfl⟩
 intro n
 induction n with
 |zero=>intro v v' c _ hc;simp[closeV] at hc
 |succ n ih=>
  intro v v' c hr hc
  have hlist:∀(l l':List V) (val:Nat->Value),l.mapM (closeV n σ)=some l'->(∀i,i<l.length->Rel K σ.top w (l.getD i undefV) (val i))->
   l'.length=l.length/\∀i,i<l'.length->Rel (aB.lend (grow K.I B0 w) (j6 K.IM B0 w)) T' w (l'.getD i undefV) (val i):=by
   intro l l' val hm hv
   obtain⟨h1,h2⟩:=mapM_some hm
   refine⟨h1.symm,fun i hi=>?_⟩
   obtain⟨h3,h4⟩:=h2 i (by omega)
   have:=hv i (by omega)
   rw[cB (show i<l.length by omega)] at this
   rw[cB h3]
   exact ih _ _ _ this h4
  have hcells:∀(x x':V) (m:Nat) (val:Nat->Value),closeV n σ x=some x'->x.cells.length=m->(∀j,j<m->Rel K σ.top w (x.cells.getD j undefV) (val j))->
   x'.cells.length=m/\∀j,j<m->Rel (aB.lend (grow K.I B0 w) (j6 K.IM B0 w)) T' w (x'.cells.getD j undefV) (val j):=by
   intro x x' m val hx hm hv
   by_cases hag:∃cs,x= .agg cs
   ·obtain⟨cs,rfl⟩:=hag
    obtain⟨cs',rfl⟩:=Ud hx
    have hm':cs.length=m:=hm
    have hcell:∀j,j<m->(Array.ofFn fun i:Fin m=>val i).getD j undef=val j:=fun j hj=>by simp[Array.getD,hj]
    have r:Rel K σ.top w (.agg cs) (.agg (Array.ofFn fun i:Fin m=>val i)):=.agg _ _ (by simpa using hm') (fun i hi=>by
     rw[hcell i (by omega)];exact hv i (by omega))
    obtain⟨g1,g2⟩:=Uc (ih _ _ _ r hx)
    have g1':cs'.length=m:=by simpa using g1
    exact⟨g1',fun j hj=>by have:=g2 j (by omega);rw[hcell j hj] at this;exact this⟩
   ·obtain⟨h1,h2⟩:=Ue (fun cs e=>hag ⟨cs,e⟩) hx
    rw[h2] at hm hv
    have hm1:m=1:=by simpa using hm.symm
    subst hm1
    rw[h1]
    refine⟨rfl,fun j hj=>?_⟩
    have hj0:j=0:=by omega
    subst hj0
    exact ih _ _ _ (hv 0 (by omega)) hx
  have z8:∀loc s cs,σ.cellsAt loc s=some cs->cs≠[]->∃vals t,w.heap[K.blk s]? =some (.cells vals t (0,0))/\vals.size=K.sz s/\cs.length<=vals.size/\B0<=K.blk s/\
   (∀i,i<cs.length->Rel K σ.top w (cs.getD i undefV) (vals.getD i undef))/\∀i,i<vals.size->w.cell? (at_ (K.blk s) i)=some (vals.getD i undef):=by
   intro loc s cs hcs hne
   obtain⟨g1,_,_⟩:=h.jF hcs
   obtain⟨a1,a2,a3⟩:=h.obj _ _ _ g1
   obtain⟨b1,vals,t,b2,b3,b4,b5⟩:=a2.2 hne
   refine⟨vals,t,b2,b3,b4,b1,b5,fun i hi=>?_⟩
   simp[World.cell?,b2,Array.getD,hi]
  unfold closeV at hc
  split at hc
  ·rename_i hp
   simp only[iE] at hc
   subst hc
   exact hr.pure hp mG nO
  ·cases hr with
   |aT c a ha hcn=>
    simp only[List.mapM_nil,Option.pure_def,Option.map_some,iE] at hc
    subst hc;exact .aT .sh a (fun h=>by cases h) trivial
   |lst c l b o m cap val hle hn hcell hrel hcap=>
    simp only[aat] at hc
    obtain⟨l',hm,rfl⟩:=hc
    obtain⟨h1,h2⟩:=mapM_some hm
    have hel:∀i,i<l'.length->(l'.getD i undefV).cells.length=m/\∀j,j<m->Rel (aB.lend (grow K.I B0 w) (j6 K.IM B0 w)) T' w ((l'.getD i undefV).cells.getD j undefV) (val i j):=by
     intro i hi
     obtain⟨h3,h4⟩:=h2 i (by omega)
     rw[cB h3]
     refine hcells _ _ m (val i) h4 ?_ (fun j hj=>?_)
     ·have:=hn i (by omega);rwa[cB (show i<l.length by omega)] at this
     ·have:=hrel i j (by omega) hj;rwa[cB (show i<l.length by omega)] at this
    rw[h1]
    refine .lst .sh l' b o m cap val (by omega) (fun i hi=>(hel i hi).1) (fun i j hi hj=>?_) (fun i j hi hj=>(hel i hi).2 j hj) trivial
    obtain⟨e1,e2⟩:=hcell i j (by omega) hj
    exact⟨e1,(mG _ _ e2).1⟩
   |agg cs vs hl hrel=>
    simp only[aat] at hc
    obtain⟨l',hm,rfl⟩:=hc
    obtain⟨h1,h2⟩:=hlist _ _ (fun i=>vs.getD i undef) hm hrel
    exact .agg _ _ (by omega) h2
   |tup cs vs hl hrel=>
    simp only[aat] at hc
    obtain⟨l',hm,rfl⟩:=hc
    obtain⟨h1,h2⟩:=hlist _ _ (fun i=>vs.getD i undef) hm hrel
    exact .tup _ _ (by omega) h2
   |cref cs off b o val hcell hrel=>
    simp only[aat] at hc
    obtain⟨l',hm,rfl⟩:=hc
    obtain⟨h1,h2⟩:=hlist _ _ val hm hrel
    exact .cref l' off b o val (fun j hj=>⟨(hcell j (by omega)).1,(mG _ _ (hcell j (by omega)).2).1⟩) h2
   |fn f a b av bv ha hb ra rb=>
    simp only[iR,aat] at hc
    obtain⟨a',hma,b',hmb,rfl⟩:=hc
    obtain⟨h1,h2⟩:=hlist _ _ (fun i=>av.getD i undef) hma ra
    obtain⟨h3,h4⟩:=hlist _ _ (fun i=>bv.getD i undef) hmb rb
    exact .fn f a' b' av bv (by omega) (by omega) h2 h4
   |ref loc s off hA=>
    simp only[iR,aat] at hc
    obtain⟨cs,hcs,cs',hm,rfl⟩:=hc
    have key:Rel (aB.lend (grow K.I B0 w) (j6 K.IM B0 w)) T' w (.cref cs' off) (.pointer (some (at_ (K.blk s) (0+off)))):=by
     by_cases hne:cs=[]
     ·subst hne
      simp only[List.mapM_nil,Option.pure_def,iE] at hm
      subst hm
      exact .cref [] off _ 0 (fun _=>undef) (fun j hj=>absurd hj (ab2 j)) (fun j hj=>absurd hj (ab2 j))
     ·obtain⟨vals,t,e1,e2,e3,e4,e5,e6⟩:=z8 _ _ _ hcs hne
      obtain⟨h1,h2⟩:=hlist _ _ (fun i=>vals.getD i undef) hm e5
      refine .cref cs' off _ 0 (fun i=>vals.getD i undef) (fun j hj=>?_) h2
      rw[ae7]
      exact⟨e6 j (by omega),.inr e4,_,e6 j (by omega)⟩
    rwa[ae7] at key
   |dR loc s aA ag hA=>
    simp only[iR] at hc
    obtain⟨cs,hcs,hc⟩:=hc
    split at hc
    ·simp only[iR] at hc
     obtain⟨cs',hm,hc⟩:=hc
     split at hc
     ·simp only[iE] at hc
      subst hc;exact .aT .sh none (fun _=>rfl) trivial
     ·simp at hc
    ·simp at hc
   |vw loc s off len cap aA ag aL hA hcp hle hsz=>
    simp only[iR] at hc
    obtain⟨cs,hcs,hc⟩:=hc
    split at hc
    ·rename_i hlen
     simp only[iR] at hc
     obtain⟨cs',hm,hc⟩:=hc
     split at hc
     ·rename_i hag
      simp only[iE] at hc
      subst hc
      have wJ:ag=false->aA=1:=fun e=>by simp[e] at hag;exact hag.1
      have wK:ag=false->oneCells cs'=true:=fun e=>by simp[e] at hag;exact hag.2
      have hl':((cs.drop off).take (len*aA)).length=len*aA:=by simp;omega
      by_cases hne:cs=[]
      ·subst hne
       have h0:len*aA=0:=by simp at hlen;omega
       have hd:(([]:List V).drop off).take (len*aA)=[]:=by simp
       rw[hd] at hm
       simp only[List.mapM_nil,Option.pure_def,iE] at hm
       subst hm
       exact rF (w:=w) (val:=fun _=>undef) wJ (by rw[h0];exact afd _) wK (fun j hj=>by omega) (fun j hj=>by omega) (by omega) trivial
      ·obtain⟨vals,t,e1,e2,e3,e4,e5,e6⟩:=z8 _ _ _ hcs hne
       obtain⟨h1,h2⟩:=hlist _ _ (fun i=>vals.getD (off+i) undef) hm (fun i hi=>by
        rw[hl'] at hi
        rw[gD _ hi,iC]
        exact e5 _ (by omega))
       rw[hl'] at h1
       refine rF (w:=w) (val:=fun i=>vals.getD (off+i) undef) wJ (by omega) wK (fun j hj=>⟨e6 _ (by omega),.inr e4,_,e6 _ (by omega)⟩) (fun j hj=>h2 j (by omega)) (by omega) trivial
     ·simp at hc
    ·simp at hc
   |mapr loc s hA=>
    simp only[iR] at hc
    obtain⟨⟨ks,vs⟩,hmp,hc⟩:=hc
    simp only[iR,aat] at hc
    obtain⟨ks',hk,vs',hv,rfl⟩:=hc
    have bI:σ.obj loc=some (s,.map ks vs):=by
     unfold Sig.bg at hmp
     split at hmp
     ·rename_i s' ks0 vs0 ho
      split at hmp
      ·rename_i hs
       simp only[iE,mF] at hmp
       obtain⟨rfl,rfl⟩:=hmp
       rw[ho,hs]
      ·simp at hmp
     ·simp at hmp
    obtain⟨_,⟨a1,es,aH,a2,a3,a4,a5,a6⟩,_⟩:=h.obj _ _ _ bI
    obtain⟨h1,h2⟩:=hlist _ _ (fun i=>(es.getD i default).key) hk (fun i hi=>a5 i (by omega))
    obtain⟨h3,h4⟩:=hlist _ _ (fun i=>(es.getD i default).val) hv (fun i hi=>a6 i (by omega))
    exact .mapc ks' vs' _ es aH ⟨.inr a1,es,aH,a2⟩ a2 (by omega) (by omega) (fun i hi=>h2 i (by omega)) (fun i hi=>h4 i (by omega))
   |mapc ks vs b es aH hM hb hk hv rk rv=>
    simp only[iR,aat] at hc
    obtain⟨ks',hk',vs',hv',rfl⟩:=hc
    obtain⟨h1,h2⟩:=hlist _ _ (fun i=>(es.getD i default).key) hk' (fun i hi=>rk i (by omega))
    obtain⟨h3,h4⟩:=hlist _ _ (fun i=>(es.getD i default).val) hv' (fun i hi=>rv i (by omega))
    exact .mapc ks' vs' b es aH (nO b hM).1 hb (by omega) (by omega) (fun i hi=>h2 i (by omega)) (fun i hi=>h4 i (by omega))
   |iface t x c hx=>
    simp only[aat] at hc
    obtain⟨x',hx',rfl⟩:=hc
    exact .iface t x' c (ih _ _ _ hx hx')
   |_=>simp at hc
end
end Aq
end
