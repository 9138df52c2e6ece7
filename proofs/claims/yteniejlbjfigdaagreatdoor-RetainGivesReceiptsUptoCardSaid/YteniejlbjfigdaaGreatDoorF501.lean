import Derived.Laws.BytesArg
import Derived.Laws.MakeOwn
import Derived.Laws.StructEq
import Derived.Lib.ConvBytes
import Derived.Test.YteniejlbjfigdaaGreatDoorF500
set_option linter.all false
section
namespace aR
open Go Go.RowKit
theorem U3 {a b:ByteArray}:(a.data.toList==b.data.toList)=(a==b):=by rw[beq_toListBytes,ByteArray.toList_eq,ByteArray.toList_eq]
section eq
variable {P:Program}{K:bq}{T:Nat->Nat}(w:World)
def K9 (d:Nat)(e:TypeId)(n:Nat)(xs ys:Array Value):List Nat->Sem Bool
 | []=>pure true|i::is=>do
  let a<-part e xs (i*n)
  let b<-part e ys (i*n)
  let r<-Go.Op.equalIn d e a b
  if (!r)=true then pure false else K9 d e n xs ys is
theorem run_equalIn_array (d:Nat)(t e:TypeId)(len n:Nat)(xs ys:Array Value)(ht:P.underlying t=some (.array len e))(hn:dF P e=some n):(Go.Op.equalIn (d+1) t (.agg xs) (.agg ys)).run P w=(K9 d e n xs ys (List.range len)).run P w:=by
 simp only[Go.Op.equalIn,Sem.run_bind,run_underlying ht,Result.andThen_ok,lI w hn];rw[Std.Legacy.Range.forIn_eq_forIn_range'];simp only[Std.Legacy.Range.size,Nat.sub_zero,Nat.add_sub_cancel,Nat.div_one,<-List.range_eq_range'];generalize List.range len=is;clear ht;induction is generalizing w with
 |nil=>simp[K9]|cons i is ih=>
  simp only[List.forIn_cons,K9,Sem.run_bind,Sem.run_ite];generalize (part e xs (i*n)).run P w=r1;cases r1 with
  |ok a w1=>
   simp only[Result.andThen_ok];generalize (part e ys (i*n)).run P w1=r2;cases r2 with
   |ok b w2=>
    simp only[Result.andThen_ok];generalize (Go.Op.equalIn d e a b).run P w2=r3;cases r3 with
    |ok r w3=>
     cases r
     .simp only[Result.andThen_ok,Bool.not_false,if_true,Sem.run_pure]
     .simp only[Result.andThen_ok,Bool.not_true,bZ,if_false,Sem.run_pure];exact ih w3
    |halt x w3=>simp[Result.andThen]
   |halt x w2=>simp[Result.andThen]
  |halt x w1=>simp[Result.andThen]
theorem U4:∀(d n:Nat),d<=n->∀(t:TypeId)(x y:V)(cx cy:Value)(r:Bool),Rel K T w x cx->Rel K T w y cy->BL P d t x y=some r->(Go.Op.equalIn n t cx cy).run P w= .ok r w
 |0,_,_,_,_,_,_,_,_,_,_,h=>by simp[BL] at h|d+1,0,hd,_,_,_,_,_,_,_,_,_=>RS|d+1,n+1,hd,t,x,y,cx,cy,r,hx,hy,h=>by
  have ih:=U4 d n RS;unfold BL at h;split at h
  .rename_i a b hu;cases hx;cases hy;simp only[iE] at h;subst h;simp[Go.Op.equalIn,run_underlying hu]
  .rename_i kk k a k' b hu;cases hx;cases hy;split at h
   .rename_i hk;subst hk;simp only[iE] at h;subst h;simp[Go.Op.equalIn,run_underlying hu]
   .simp at h
  .rename_i a b hu;cases hx with|str _ ba ha=>cases hy with|str _ bb hb=>
   simp only[iE] at h;subst h;subst ha;subst hb;simp only[Go.Op.equalIn,Sem.run_bind,run_underlying hu,Result.andThen_ok,Sem.run_pure,U3]
  .rename_i fs xs ys hu;split at h
   .simp at h
   .rename_i hsi;cases hx with|agg _ vx hlx hrx=>cases hy with|agg _ vy U5 U6=>
    have hf:P.fieldsOf t=fs:=(by simp[Program.fieldsOf,hu]);rw[run_equalIn_struct w n t vx vy (by rw[hf];exact hu) (by simpa using hsi),hf];generalize fs.toList=l at h⊢;clear hf hu;induction l generalizing r with
    |nil=>simp only[En,iE] at h;subst h;rfl|cons f l ihl=>
     simp only[En] at h;simp only[Op.eqFields];split at h
     .rename_i hn;simp only[hn,ne_eq,not_true_eq_false,if_false];exact ihl r h
     .rename_i hn;simp only[iR,aW] at h;obtain⟨a,ha,b,hb,q,hq,r',hr',rfl⟩:=h;obtain⟨ca,ra,U7⟩:=Gw hlx hrx ha;obtain⟨cb,rb,U8⟩:=Gw U5 U6 hb;simp only[hn,ne_eq,not_false_eq_true,if_true,Sem.run_bind,ra,rb,Result.andThen_ok,ih f.type a b ca cb q U7 U8 hq,Sem.run_ite];cases q
      .simp
      .simpa using ihl r' hr'
  .rename_i len e xs ys hu;simp only[iR] at h;obtain⟨sz,hsz,h⟩:=h;cases hx with|agg _ vx hlx hrx=>cases hy with|agg _ vy U5 U6=>
   rw[run_equalIn_array w n t e len sz vx vy hu hsz];generalize List.range len=l at h⊢;clear hu;induction l generalizing r with
   |nil=>simp only[Gn,iE] at h;subst h;rfl|cons i l ihl=>
    simp only[Gn] at h;simp only[K9];simp only[iR,aW] at h;obtain⟨a,ha,b,hb,q,hq,r',hr',rfl⟩:=h;obtain⟨ca,ra,U7⟩:=Gw hlx hrx ha;obtain⟨cb,rb,U8⟩:=Gw U5 U6 hb;simp only[Sem.run_bind,ra,rb,Result.andThen_ok,ih e a b ca cb q U7 U8 hq,Sem.run_ite];cases q
    .simp
    .simpa using ihl r' hr'
  .simp at h
theorem amh (op:BinOp)(t:TypeId)(ox oy:Operand){ms}(hu:P.underlying t=some (.interface ms))(hms:ms.isEmpty=true):(eqGuard op t ox oy .nilIface .nilIface).run P w= .ok () w:=by
 have hg0:∀d,(Go.Op.eqGuardIn (d+1) t .nilIface .nilIface).run P w= .ok false w:=fun d=>by simp[Go.Op.eqGuardIn,run_underlying hu,hms]
 have hg:(Go.Op.eqGuardIn Go.Op.maxDepth t .nilIface .nilIface).run P w= .ok false w:=hg0 9999;unfold eqGuard;generalize Go.Op.eqGuardIn Go.Op.maxDepth t .nilIface .nilIface=s at hg⊢;cases op<;>first|rfl| (cases ox<;>cases oy<;>first|rfl|simp[hg])
theorem eq_nil (n:Nat)(t:TypeId){ms}(hu:P.underlying t=some (.interface ms)):(Go.Op.equalIn (n+1) t .nilIface .nilIface).run P w= .ok true w:=oz
theorem ami (n:Nat)(t:TypeId){ms}{u c}(hu:P.underlying t=some (.interface ms)):(Go.Op.equalIn (n+1) t .nilIface (.iface u c)).run P w= .ok false w:=oz
theorem amj (n:Nat)(t:TypeId){ms}{u c}(hu:P.underlying t=some (.interface ms)):(Go.Op.equalIn (n+1) t (.iface u c) .nilIface).run P w= .ok false w:=oz
theorem amk {op:BinOp}(n:Nat)(hn:8<=n+1)(t:TypeId)(x y:V)(cx cy:Value)(r:Bool)(ox oy:Operand)(hx:Rel K T w x cx)(hy:Rel K T w y cy)(h:uX P t x y=some r):(eqGuard op t ox oy cx cy).run P w= .ok () w/\(Go.Op.equalIn (n+1) t cx cy).run P w= .ok r w:=by
 unfold uX at h;split at h
 .rename_i hu;cases hx;cases hy;simp only[iE] at h;subst h;exact⟨oC,oz⟩
 .rename_i hu;cases hx;cases hy<;>(simp only[iE] at h;subst h;exact⟨oC,oz⟩)
 .rename_i hu;cases hy;cases hx<;>(simp only[iE] at h;subst h;exact⟨oC,oz⟩)
 .rename_i hu;cases hx;cases hy;simp only[iE] at h;subst h;exact⟨oC,oz⟩
 .rename_i hu;cases hx;cases hy;simp only[iE] at h;subst h;exact⟨oC,oz⟩
 .rename_i hu;cases hx;cases hy;simp only[iE] at h;subst h;exact⟨oC,oz⟩
 .rename_i hu;cases hx;cases hy;simp only[iE] at h;subst h;exact⟨oC,oz⟩
 .rename_i hu;cases hx;cases hy;simp only[iE] at h;subst h;exact⟨oC,oz⟩
 .rename_i hu;simp only[iE] at h;subst h;cases hx with
  |ak _ _ _ _ _ _ _ _ _ _ _ hc=>exact hc.elim|gD _ a ha _=>cases hy with
   |ak _ _ _ _ _ _ _ _ _ _ _ hc=>exact hc.elim|gD _ a' ha' _=>
    cases ha rfl;cases ha' rfl;exact⟨oC,oz⟩
 .rename_i hu;simp only[iE] at h;subst h;cases hx with
  |ak _ _ _ _ _ _ _ _ _ _ _ hc=>exact hc.elim|gD _ a ha _=>cases ha rfl;cases hy with
   |ak _ _ _ _ _ _ _ _ _ _ _ hc=>exact⟨oC,oz⟩
 .rename_i hu;simp only[iE] at h;subst h;cases hy with
  |ak _ _ _ _ _ _ _ _ _ _ _ hc=>exact hc.elim|gD _ a ha _=>cases ha rfl;cases hx with
   |ak _ _ _ _ _ _ _ _ _ _ _ hc=>exact⟨oC,oz⟩
 .rename_i hu;cases hx;cases hy;simp only[iE] at h;subst h;exact⟨oC,oz⟩
 .rename_i hu;cases hx;cases hy;simp only[iE] at h;subst h;exact⟨oC,oz⟩
 .rename_i hu;cases hx;cases hy;simp only[iE] at h;subst h;exact⟨oC,oz⟩
 .rename_i hu;cases hx;cases hy;simp only[iE] at h;subst h;exact⟨oC,oz⟩
 .rename_i hu;cases hx;cases hy;simp only[iE] at h;subst h;exact⟨oC,oz⟩
 .rename_i hu;split at h
  .simp at h
  .rename_i hg;refine⟨?_,U4 w 8 (n+1) hn t _ _ cx cy r hx hy h⟩;cases hx;cases hy;exact run_eqGuard_agg w op t ox oy _ _ (by simpa using hg)
 .rename_i hu;split at h
  .simp at h
  .rename_i hg;refine⟨?_,U4 w 8 (n+1) hn t _ _ cx cy r hx hy h⟩;cases hx;cases hy;exact run_eqGuard_agg w op t ox oy _ _ (by simpa using hg)
 .rename_i hu;cases hx;cases hy;simp only[iE] at h;subst h;exact⟨oC,oz⟩
 .rename_i ms hu;split at h
  .rename_i hms;cases hx;cases hy;simp only[iE] at h;subst h;exact⟨amh w op t ox oy hu hms,eq_nil w n t hu⟩
  .cases h
 .rename_i hu;cases hx;cases hy;simp only[iE] at h;subst h;exact⟨oC,ami w n t hu⟩
 .rename_i hu;cases hx;cases hy;simp only[iE] at h;subst h;exact⟨oC,amj w n t hu⟩
 .simp at h
theorem adY {op:BinOp}(t:TypeId)(x y:V)(cx cy:Value)(r:Bool)(ox oy:Operand)(hx:Rel K T w x cx)(hy:Rel K T w y cy)(h:uX P t x y=some r):(eqGuard op t ox oy cx cy).run P w= .ok () w/\(Go.Op.equal t cx cy).run P w= .ok r w:=
 amk w 9999 RS t x y cx cy r ox oy hx hy h
end eq
section
variable {P:Program}{K:bq}{T:Nat->Nat}(w:World)
theorem aml {op:BinOp}{t:TypeId}{k:IntKind}{a b:Int}{v:V}(h:mI op k a b=some v):
 ∃c,(binOp op t (.int k a) (.int k b)).run P w= .ok c w/\Rel K T w v c:=by
 cases op with
 |quo=>
  simp only[mI] at h;split at h
  .simp at h
  .rename_i hb;simp only[iE] at h;subst h;exact⟨_,by simp only[binOp_quo,Op.intDiv,hb,if_false,Sem.run_pure],.int _ _⟩
 |rem=>
  simp only[mI] at h;split at h
  .simp at h
  .rename_i hb;simp only[iE] at h;subst h;exact⟨_,by simp only[binOp_rem,Op.intDiv,hb,if_false,Sem.run_pure],.int _ _⟩
 |shl=>simp[mI] at h|shr=>simp[mI] at h|add=>simp only[mI,iE] at h;subst h;exact⟨_,by simp only[binOp_add,Op.intArith,Sem.run_pure],.int _ _⟩|sub=>simp only[mI,iE] at h;subst h;exact⟨_,by simp only[binOp_sub,Op.intArith,Sem.run_pure],.int _ _⟩|mul=>simp only[mI,iE] at h;subst h;exact⟨_,by simp only[binOp_mul,Op.intArith,Sem.run_pure],.int _ _⟩|and=>simp only[mI,iE] at h;subst h;exact⟨_,by simp only[binOp_and,Op.intBits,Sem.run_pure],.int _ _⟩
 |or=>simp only[mI,iE] at h;subst h;exact⟨_,by simp only[binOp_or,Op.intBits,Sem.run_pure],.int _ _⟩|xor=>simp only[mI,iE] at h;subst h;exact⟨_,by simp only[binOp_xor,Op.intBits,Sem.run_pure],.int _ _⟩|andNot=>simp only[mI,iE] at h;subst h;exact⟨_,by simp only[binOp_andNot,Op.intBits,Sem.run_pure],.int _ _⟩|eql=>simp only[mI,iE] at h;subst h;exact⟨_,by simp only[binOp_eql,Sem.run_pure],.bool _⟩|neq=>simp only[mI,iE] at h;subst h;exact⟨_,by simp only[binOp_neq,Sem.run_pure],.bool _⟩
 |lss=>simp only[mI,iE] at h;subst h;exact⟨_,by simp only[binOp_lss,Sem.run_pure],.bool _⟩|leq=>simp only[mI,iE] at h;subst h;exact⟨_,by simp only[binOp_leq,Sem.run_pure],.bool _⟩|gtr=>simp only[mI,iE] at h;subst h;exact⟨_,by simp only[binOp_gtr,Sem.run_pure],.bool _⟩|geq=>simp only[mI,iE] at h;subst h;exact⟨_,by simp only[binOp_geq,Sem.run_pure],.bool _⟩
theorem amm {op:BinOp}{t:TypeId}{x y:List UInt8}{a b:ByteArray}{v:V}(ha:a.data.toList=x)(hb:b.data.toList=y)(h:BM op x y=some v):
 ∃c,(binOp op t (.string a) (.string b)).run P w= .ok c w/\Rel K T w v c:=by
 have e:binOp op t (.string a) (.string b)=Op.stringOp op a b:=oC
 rw[e];subst ha;subst hb;cases op with
 |add=>
  simp only[BM] at h;split at h
  .simp at h
  .rename_i hn;simp only[iE] at h;subst h;have hn':¬((a.size+b.size:Nat):Int)>IntKind.i64.max:=by simpa using hn
   exact⟨.string (a++b),by simp only[Op.stringOp,hn',if_false,Sem.run_pure],.str _ _ aB⟩
 |_=>first
  | (simp only[BM,iE] at h;subst h;refine⟨_,?_,.bool _⟩;simp only[Op.stringOp,Sem.run_pure,ByteArray.toList_eq])
  |simp[BM] at h
def amn:V->Prop
 |.int _ _|.str _|.raw _|.bK _=>False|_=>True
theorem adZ {t:TypeId}{x y:V}{r:Bool}(h:uX P t x y=some r):amn x:=by unfold uX at h;split at h<;>first|exact trivial|simp at h
theorem amo {op:BinOp}{t:TypeId}{x y v:V}{cx cy:Value}(ox oy:Operand)(hx:Rel K T w x cx)(hy:Rel K T w y cy)(h:rZ P op t x y=some v):
 ∃c,(do eqGuard op t ox oy cx cy;binOp op t cx cy:Sem Value).run P w= .ok c w/\Rel K T w v c:=by
 unfold rZ at h;split at h
 .cases hx;cases hy;rename_i k a k' b;unfold KY at h;split at h
  .simp at h
  .rename_i hb;simp only[iE] at h;subst h;refine⟨.int k (k.wrap (a*2^min b.toNat k.bits)),?_,.int _ _⟩;rw[eqGuard_shl];simp[binOp_shl,Op.shift,hb]
 .cases hx;cases hy;rename_i k a k' b;unfold KY at h;split at h
  .simp at h
  .rename_i hb;simp only[iE] at h;subst h;refine⟨.int k (a.fdiv (2^min b.toNat k.bits)),?_,.int _ _⟩;rw[eqGuard_shr];simp[binOp_shr,Op.shift,hb]
 .cases hx;cases hy;split at h
  .rename_i hk;subst hk;rw[eqGuard_at_int];simp only[pure_bind];exact aml w h
  .simp at h
 .cases hx with|str _ a ha=>cases hy with|str _ b hb=>
  rw[eqGuard_at_string];simp only[pure_bind];exact amm w ha hb h
 .simp only[aW] at h;obtain⟨r,hr,rfl⟩:=h;obtain⟨g1,g2⟩:=adY (op:=.eql) w t x y cx cy r ox oy hx hy hr;refine⟨.bool r,?_,.bool r⟩;have e:binOp .eql t cx cy=(Op.equal t cx cy>>=fun b=>pure (Value.bool b)):=by have hk:=adZ hr;cases hx<;>first|exact hk.elim|rfl| (cases hy<;>rfl)
  rw[e];simp[g1,g2]
 .simp only[aW] at h;obtain⟨r,hr,rfl⟩:=h;obtain⟨g1,g2⟩:=adY (op:=.neq) w t x y cx cy r ox oy hx hy hr;refine⟨.bool !r,?_,.bool _⟩;have e:binOp .neq t cx cy=(Op.equal t cx cy>>=fun b=>pure (Value.bool !b)):=by have hk:=adZ hr;cases hx<;>first|exact hk.elim|rfl| (cases hy<;>rfl)
  rw[e];simp[g1,g2]
 .simp at h
end
def La (K:bq)(T:Nat->Nat)(w:World)(cs:List V)(vs:Array Value):Prop:=
 cs.length=vs.size/\∀i,i<cs.length->Rel K T w (cs.getD i aJ) (vs.getD i undef)
theorem tQ {J:Type}(l:List J)(n i:Nat)(d:J):(l.drop n).getD i d=l.getD (n+i) d:=by simp[List.getD,List.getElem?_drop]
theorem rz {J:Type}(l:List J){n i:Nat}(h:i<n)(d:J):(l.take n).getD i d=l.getD i d:=by simp[List.getD,h]
section
variable {P:Program}{K:bq}{T:Nat->Nat}(w:World)
theorem amq {op:UnOp}{x v:V}{cx:Value}(hx:Rel K T w x cx)(h:Eo op x=some v):∃c,(Op.unary op cx).run P w= .ok c w/\Rel K T w v c:=by
 unfold Eo at h;split at h
 .cases hx;simp only[iE] at h;subst h;exact⟨_,rfl,.int _ _⟩
 .cases hx;simp only[mI,iE] at h;subst h;exact⟨_,rfl,.int _ _⟩
 .cases hx;simp only[iE] at h;subst h;exact⟨_,rfl,.bool _⟩
 .simp at h
theorem Gx {x:V}{cx:Value}(hx:Rel K T w x cx){y U9 k:Nat}(hy:y<=U9)(code:BoundsCode)(h:bnd x y=some k):(Instr.sliceBound cx U9 code).run P w= .ok k w/\k<=y:=by
 simp only[bnd,iR] at h;obtain⟨i,hi,h⟩:=h;split at h
 .rename_i hb;simp only[iE] at h;subst h;cases x<;>simp[pG] at hi;subst hi;cases hx;rename_i kk q;refine⟨?_,RS⟩;have:0<=q/\q<=(U9:Int):=RS
  simp[Instr.sliceBound,asIntOf,this]
 .simp at h
theorem Eu {lo hi mx:Option V}{xR xS wH:Option Value}(Va:Bool){len cap fq l h m:Nat}(hlc:len<=cap)(hcap:cap<=fq)(r1:∀v,lo=some v->∃c,xR=some c/\Rel K T w v c)(n1:lo=none->xR=none)(r2:∀v,hi=some v->∃c,xS=some c/\Rel K T w v c)(n2:hi=none->xS=none)(r3:∀v,mx=some v->∃c,wH=some c/\Rel K T w v c)(n3:mx=none->wH=none)(hb:jq len cap lo hi mx=some (l,h,m)):
 ∃mc,(Instr.sliceBounds Va len fq xR xS wH).run P w= .ok (l,h,mc) w/\l<=h/\h<=m/\m<=cap/\m<=mc/\mc<=fq/\(mx.isSome->mc=m)/\(mx=none->mc=fq/\m=cap):=by
 simp only[jq,iR] at hb;obtain⟨m',hm,h',hh,l',hl,e⟩:=hb;simp only[iE,aS] at e;obtain⟨rfl,rfl,rfl⟩:=e;cases mx with
 |none=>
  simp only[iE] at hm;subst hm;obtain rfl:=n3 rfl;cases hi with
  |none=>
   simp only[iE] at hh;subst hh;obtain rfl:=n2 rfl;cases lo with
   |none=>simp only[iE] at hl;subst hl;obtain rfl:=n1 rfl;exact⟨fq,by simp[Instr.sliceBounds],RS,RS,RS,RS,RS,aB,aB⟩
   |some vl=>obtain⟨cl,rfl,rl⟩:=r1 vl rfl;obtain⟨g1,g2⟩:=Gx (P:=P) w rl (mF _) .sliceB hl;exact⟨fq,by simp[Instr.sliceBounds,g1],RS,RS,RS,RS,RS,aB,aB⟩
  |some vh=>
   obtain⟨ch,rfl,rh⟩:=r2 vh rfl;obtain⟨f1,f2⟩:=Gx (P:=P) w rh hcap (if Va then .sliceAcap else .sliceAlen) hh;cases lo with
   |none=>simp only[iE] at hl;subst hl;obtain rfl:=n1 rfl;exact⟨fq,by simp[Instr.sliceBounds,f1],RS,RS,RS,RS,RS,aB,aB⟩
   |some vl=>obtain⟨cl,rfl,rl⟩:=r1 vl rfl;obtain⟨g1,g2⟩:=Gx (P:=P) w rl (mF _) .sliceB hl;exact⟨fq,by simp[Instr.sliceBounds,f1,g1],RS,RS,RS,RS,RS,aB,aB⟩
 |some vm=>
  obtain⟨cm,rfl,rm⟩:=r3 vm rfl;obtain⟨e1,e2⟩:=Gx (P:=P) w rm hcap (if Va then .slice3Acap else .slice3Alen) hm;cases hi with
  |none=>simp at hh|some vh=>
   obtain⟨ch,rfl,rh⟩:=r2 vh rfl;obtain⟨f1,f2⟩:=Gx (P:=P) w rh (mF _) .slice3B hh;cases lo with
   |none=>simp only[iE] at hl;subst hl;obtain rfl:=n1 rfl;exact⟨m',by simp[Instr.sliceBounds,e1,f1],RS,RS,RS,RS,RS,aB,aB⟩
   |some vl=>obtain⟨cl,rfl,rl⟩:=r1 vl rfl;obtain⟨g1,g2⟩:=Gx (P:=P) w rl (mF _) .slice3C hl;exact⟨m',by simp[Instr.sliceBounds,e1,f1,g1],RS,RS,RS,RS,RS,aB,aB⟩
theorem Rel.sub {c:Cap}{l:List V}{b o n cap:Nat}(val:Nat->Nat->Value)(hn:∀i,i<l.length->(l.getD i aJ).cells.length=n)(hcell:∀i j,i<l.length->j<n->w.cell? (at_ b (o+i*n+j))=some (val i j)/\K.I b (o+i*n+j))(hrel:∀i j,i<l.length->j<n->Rel K T w ((l.getD i aJ).cells.getD j aJ) (val i j)){lo hi:Nat}(h1:lo<=hi)(h2:hi<=l.length)(hcap:hi-lo<=cap)(hc:tL K T c n b (o+lo*n) (hi-lo) cap):Rel K T w (.ak c ((l.take hi).drop lo)) (.slice (some (at_ b (o+lo*n))) (hi-lo) cap):=by
 have hlen:((l.take hi).drop lo).length=hi-lo:=dP
 have hget:∀i,i<hi-lo->((l.take hi).drop lo).getD i aJ=l.getD (lo+i) aJ:=fun i hi'=>by rw[tQ,rz _ RS]
 have key:Rel K T w (.ak c ((l.take hi).drop lo)) (.slice (some (at_ b (o+lo*n))) ((l.take hi).drop lo).length cap):=by
  refine .ak c _ b (o+lo*n) n cap (fun i j=>val (lo+i) j) RS (fun i hi'=>?_) (fun i j hi' hj=>?_) (fun i j hi' hj=>?_) (by rw[hlen];exact hc)
  .rw[hget i RS];exact hn _ RS
  .have:=hcell (lo+i) j RS hj
   rwa[show o+(lo+i)*n+j=o+lo*n+i*n+j by rw[qy];omega] at this
  .rw[hget i RS];exact hrel _ j RS hj
 rwa[hlen] at key
theorem Vb {sz n:Nat}{l:List V}(h:og sz l=true)(hn:∀i,i<l.length->(l.getD i aJ).cells.length=n)(hl:0<l.length):n=sz:=by
 cases l with
 |nil=>simp at hl|cons v l=>have:=hn 0 aB;simp only[og,beq_iff_eq] at h;simpa [h] using this.symm
theorem vg (ag:Bool)(n:Nat):∀(k:Nat)(cs:List V),(chunks ag n k cs).length=k
 |0,_=>rfl|k+1,cs=>by simp[chunks,vg ag n k]
theorem Vd (ag:Bool)(n:Nat):∀(k:Nat)(cs:List V)(i:Nat),i<k->(chunks ag n k cs).getD i aJ=if ag then V.agg ((cs.drop (i*n)).take n) else (cs.drop (i*n)).headD aJ
 |k+1,cs,0,_=>by simp[chunks,List.getD]|k+1,cs,i+1,h=>by have:=Vd ag n k (cs.drop n) i RS;simp only[chunks,List.getD_cons_succ,this,List.drop_drop];rw[show n+i*n=(i+1)*n by rw[qy];omega]
theorem Ve (ag:Bool){n k:Nat}{cs:List V}(h1:ag=false->n=1)(hl:k*n<=cs.length)(hone:ag=false->bY cs=true){i:Nat}(hi:i<k):((chunks ag n k cs).getD i aJ).cells=(cs.drop (i*n)).take n:=by
 have hmul:i*n+n<=k*n:=by have:=nJ n (Nat.succ_le_of_lt hi);rw[qX] at this;exact this
 rw[Vd ag n k cs i hi];cases ag with
 |true=>rfl|false=>
  have hn:=h1 rfl;subst hn;have hlt:i<cs.length:=RS
  have hd:cs.drop (i*1)=cs[i]::cs.drop (i+1):=by rw[Nat.mul_one];exact nW hlt
  have ho:oneCell cs[i]=true:=by have:=hone rfl;simp only[bY,kU] at this;exact this _ (lX hlt)
  rw[hd];simp only[bZ,if_false,List.headD_cons,List.take_succ_cons,List.take_zero];cases hc:cs[i]<;>simp_all[oneCell,V.cells]
theorem Gy {c:Cap}{ag:Bool}{n k b o cap:Nat}{cs:List V}(val:Nat->Value)(h1:ag=false->n=1)(hl:k*n<=cs.length)(hone:ag=false->bY cs=true)(hcell:∀j,j<k*n->w.cell? (at_ b (o+j))=some (val j)/\K.I b (o+j))(hrel:∀j,j<k*n->Rel K T w (cs.getD j aJ) (val j))(hcap:k<=cap)(hc:tL K T c n b o k cap):Rel K T w (.ak c (chunks ag n k cs)) (.slice (some (at_ b o)) k cap):=by
 have hmul:∀i j,i<k->j<n->i*n+j<k*n:=fun i j hi hj=>by have:=nJ n (Nat.succ_le_of_lt hi);rw[qX] at this;omega
 have hcl:∀i,i<k->((chunks ag n k cs).getD i aJ).cells=(cs.drop (i*n)).take n:=fun i hi=>Ve ag h1 hl hone hi;have key:Rel K T w (.ak c (chunks ag n k cs)) (.slice (some (at_ b o)) (chunks ag n k cs).length cap):=by
  refine .ak c _ b o n cap (fun i j=>val (i*n+j)) (by rw[vg];exact hcap) (fun i hi=>?_) (fun i j hi hj=>?_) (fun i j hi hj=>?_) (by rw[vg];exact hc)
  .rw[vg] at hi;rw[hcl i hi];have:=nJ n (Nat.succ_le_of_lt hi);rw[qX] at this;simp;omega
  .rw[vg] at hi;have:=hcell (i*n+j) (hmul i j hi hj)
   rwa[<-oG] at this
  .rw[vg] at hi;rw[hcl i hi,rz _ hj,tQ];exact hrel _ (hmul i j hi hj)
 rwa[vg] at key
theorem amr {E:Env}{B0:Nat}{Z:ah}(hT:T=Z.top)(hs:bG E B0 Z K w){t:TypeId}{x v:V}{cx:Value}{lo hi mx:Option V}{xR xS wH:Option Value}(hx:Rel K T w x cx)(r1:∀v,lo=some v->∃c,xR=some c/\Rel K T w v c)(n1:lo=none->xR=none)(r2:∀v,hi=some v->∃c,xS=some c/\Rel K T w v c)(n2:hi=none->xS=none)(r3:∀v,mx=some v->∃c,wH=some c/\Rel K T w v c)(n3:mx=none->wH=none)(h:kQ P Z t x lo hi mx=some v):∃c,(Instr.sliceAt t cx xR xS wH).run P w= .ok c w/\Rel K T w v c:=by
 unfold kQ at h;split at h
 .rename_i s hu;cases hx with|str _ b hb=>
  split at h
  .simp at h
  .simp only[aW] at h;obtain⟨⟨l,hh,m⟩,hbv,rfl⟩:=h;obtain rfl:=n3 rfl;have hsz:s.length=b.size:=by rw[<-hb];simp
   rw[hsz] at hbv;obtain⟨mc,g1,g2,g3,_⟩:=Eu (P:=P) w false (mF _) (mF _) r1 n1 r2 n2 (mx:=none) (wH:=none) (fun v hv=>by simp at hv) (fun _=>rfl) hbv;refine⟨.string (b.extract l hh),by simp[Instr.sliceAt,Instr.slice,run_underlying hu,g1],.str _ _ ?_⟩;rw[<-hb];simp[ByteArray.data_extract,List.drop_take]
 .rename_i e c s hu;simp only[iR] at h;obtain⟨sz,hsz,⟨l,hh,m⟩,hbv,h⟩:=h;split at h
  .rename_i ams;simp only[iE] at h;cases hx with
   |gD _ a ha hc=>
    obtain⟨mc,g1,g2,g3,g4,g5,g6,g7,g8⟩:=Eu (P:=P) w true (mF _) (mF _) r1 n1 r2 n2 r3 n3 hbv;simp only[List.length_nil] at g1 g4 g6;obtain rfl:m=0:=RS;obtain rfl:hh=0:=RS;obtain rfl:l=0:=RS;obtain rfl:mc=0:=RS;refine⟨.slice a 0 0,by cases a<;>simp[Instr.sliceAt,Instr.slice,run_underlying hu,lI w hsz,g1],?_⟩;subst h;split
    .exact .gD c a ha hc
    .rename_i hn;cases mx with
     |none=>simp at hn|some vm=>simp;exact .gD _ a (fun h=>bU) trivial
   |ak _ _ b o n cap val hle hn hcell hrel hc=>
    obtain⟨mc,g1,g2,g3,g4,g5,g6,g7,g8⟩:=Eu (P:=P) w true (mF _) hle r1 n1 r2 n2 r3 n3 hbv;have hn':0<l->n=sz:=fun hl=>Vb ams hn RS;have hrun:(Instr.sliceAt t (.slice (some (at_ b o)) s.length cap) xR xS wH).run P w= .ok (.slice (some (at_ b (if mc=l then o else o+l*sz))) (hh-l) (mc-l)) w:=by
     simp only[Instr.sliceAt,Instr.slice,Sem.run_bind,run_underlying hu,lI w hsz,g1,Result.andThen_ok,Sem.run_pure];split
     .simp
     .simp[addr_add]
    refine⟨_,hrun,?_⟩;subst h;split
    .rename_i hw;obtain⟨rfl,rfl,hm⟩:=hw;have hm':mx=none:=(by cases mx<;>simp_all);obtain⟨rfl,_⟩:=g8 hm';have:(if mc=0 then o else o+0*sz)=o:=aB;rw[this];exact .ak c s b o n mc val hle hn hcell hrel hc
    .have hgo:∀c',(∀n' s',c'≠ .own n' s')->tL K T c' n b (o+l*n) (hh-l) (mc-l)->Rel K T w (.ak c' ((s.take hh).drop l)) (.slice (some (at_ b (if mc=l then o else o+l*sz))) (hh-l) (mc-l)):=by
      intro c' hown hc';by_cases hml:mc=l
      .have:hh=l:=RS;subst this;have hnil:(s.take hh).drop hh=[]:=aB;rw[hnil];have key:Rel K T w (.ak c' []) (.slice (some (at_ b (if mc=hh then o else o+hh*sz))) ([]:List V).length (mc-hh)):=by
        refine .ak c' [] b _ n _ (fun _ _=>undef) aB (fun i hi=>absurd hi (fZ i)) (fun i j hi=>absurd hi (fZ i)) (fun i j hi=>absurd hi (fZ i)) ?_;cases c' with
        |sh=>trivial|full=>simpa [tL] using hc'|nil=>exact hc'.elim|own n' s'=>exact absurd rfl (hown n' s')
       simpa using key
      .have e1:(if mc=l then o else o+l*sz)=o+l*n:=by
        rw[if_neg hml];rcases Nat.eq_zero_or_pos l with h0|h0
        .simp[h0]
        .rw[hn' h0]
       rw[e1];exact Rel.sub w val hn hcell hrel g2 RS RS hc'
     cases mx with
     |some vm=>
      have:=g7 rfl;dsimp only;split
      .exact hgo _ (fun _ _=>aB) (by simp only[tL];omega)
      .exact hgo _ (fun _ _=>aB) trivial
     |none=>
      obtain⟨hmc,_⟩:=g8 rfl;dsimp only;cases c with
      |full=>
       dsimp only;split
       .exact hgo _ (fun _ _=>aB) (by simp only[tL] at hc⊢;omega)
       .exact hgo _ (fun _ _=>aB) trivial
      |_=>exact hgo _ (fun _ _=>aB) trivial
  .simp at h
 .rename_i e loc st off len cap bD ag hu;simp only[iR] at h;obtain⟨sz,hsz,⟨l,hh,m⟩,hbv,h⟩:=h;split at h
  .rename_i hse;subst hse;simp only[iE] at h;cases hx with
   |om _ _ _ _ hA=>obtain⟨mc,g1,g2,g3,g4,g5,g6,g7,g8⟩:=Eu (P:=P) w true (mF _) (mF _) r1 n1 r2 n2 r3 n3 hbv;obtain rfl:m=0:=RS;obtain rfl:hh=0:=RS;obtain rfl:l=0:=RS;obtain rfl:mc=0:=RS;refine⟨.slice none 0 0,by simp[Instr.sliceAt,Instr.slice,run_underlying hu,lI w hsz,g1],?_⟩;subst h;simp;exact .om loc st sz ag hA
   |aU _ _ _ _ _ _ _ fq hA hcc hle hks=>
    obtain⟨mc,g1,g2,g3,g4,g5,g6,g7,g8⟩:=Eu (P:=P) w true hle hcc r1 n1 r2 n2 r3 n3 hbv;have hrun:(Instr.sliceAt t (.slice (some (at_ (K.blk st) off)) len fq) xR xS wH).run P w= .ok (.slice (some (at_ (K.blk st) (if mc=l then off else off+l*sz))) (hh-l) (mc-l)) w:=by
     simp only[Instr.sliceAt,Instr.slice,Sem.run_bind,run_underlying hu,lI w hsz,g1,Result.andThen_ok,Sem.run_pure];split
     .simp
     .simp[addr_add]
    refine⟨_,hrun,?_⟩;subst h;split
    .rename_i hw;obtain⟨rfl,h0⟩:=hw;simp only[Nat.sub_self];refine .ak _ [] (K.blk st) _ 0 _ (fun _ _=>undef) aB (fun i hi=>absurd hi (fZ i)) (fun i j hi=>absurd hi (fZ i)) (fun i j hi=>absurd hi (fZ i)) ?_;cases mx with
     |some vm=>
      have:=g7 rfl;dsimp only;split
      .simp only[tL,List.length_nil];omega
      .trivial
     |none=>trivial
    .rename_i hw;have e1:(if mc=l then off else off+l*sz)=off+l*sz:=by
      split
      .have:l=0:=RS;simp[this]
      .rfl
     rw[e1];refine .aU loc st _ _ _ sz ag _ hA RS RS ?_;have:l*sz+(mc-l)*sz<=fq*sz:=(by rw[<-qy];exact nJ _ RS);omega
  .simp at h
 .rename_i n e loc st off hu;simp only[iR] at h;obtain⟨sz,hsz,ag,hag,⟨l,hh,m⟩,hbv,cs,hcs,h⟩:=h;split at h
  .rename_i hle;simp only[iE] at h;obtain⟨ho,hA,hks⟩:=hs.wG hcs;cases hx with|ref _ _ _ hA'=>
   obtain⟨mc,g1,g2,g3,g4,g5,g6,g7,g8⟩:=Eu (P:=P) w false (mF _) (mF _) r1 n1 r2 n2 r3 n3 hbv;have hrun:(Instr.sliceAt t (.pointer (some (at_ (K.blk st) off))) xR xS wH).run P w= .ok (.slice (some (at_ (K.blk st) (if mc=l then off else off+l*sz))) (hh-l) (mc-l)) w:=by
    simp only[Instr.sliceAt,Sem.run_bind,run_underlying hu,Instr.sureAddr,lI w hsz,g1,Result.andThen_ok,Sem.run_pure];split
    .simp
    .simp[addr_add]
   refine⟨_,hrun,?_⟩;subst h;split
   .rename_i hw;obtain⟨rfl,h0⟩:=hw;simp only[Nat.sub_self];refine .ak _ [] (K.blk st) _ 0 _ (fun _ _=>undef) aB (fun i hi=>absurd hi (fZ i)) (fun i j hi=>absurd hi (fZ i)) (fun i j hi=>absurd hi (fZ i)) ?_;cases mx with
    |some vm=>
     have:=g7 rfl;dsimp only;split
     .simp only[tL,List.length_nil];omega
     .trivial
    |none=>trivial
   .rename_i hw;have e1:(if mc=l then off else off+l*sz)=off+l*sz:=by
     split
     .have:l=0:=RS;simp[this]
     .rfl
    rw[e1];refine .aU loc st _ _ _ sz ag _ hA RS RS ?_;have:l*sz+(mc-l)*sz<=n*sz:=(by rw[<-qy];exact nJ _ RS);omega
  .simp at h
 .rename_i n e cs off hu;simp only[iR] at h;obtain⟨sz,hsz,ag,hag,⟨l,hh,m⟩,hbv,h⟩:=h;split at h
  .rename_i hle;obtain⟨hle,hone⟩:=hle;simp only[iE] at h;cases hx with|aX _ _ b o val hcell hrel=>
   obtain⟨mc,g1,g2,g3,g4,g5,g6,g7,g8⟩:=Eu (P:=P) w false (mF _) (mF _) r1 n1 r2 n2 r3 n3 hbv;have hrun:(Instr.sliceAt t (.pointer (some (at_ b (o+off)))) xR xS wH).run P w= .ok (.slice (some (at_ b (if mc=l then o+off else o+off+l*sz))) (hh-l) (mc-l)) w:=by
    simp only[Instr.sliceAt,Sem.run_bind,run_underlying hu,Instr.sureAddr,lI w hsz,g1,Result.andThen_ok,Sem.run_pure];split
    .simp
    .simp[addr_add]
   refine⟨_,hrun,?_⟩;subst h;by_cases hml:mc=l
   .have:hh=l:=RS;subst this;simp only[Nat.sub_self,chunks];refine .ak _ [] b _ 0 _ (fun _ _=>undef) aB (fun i hi=>absurd hi (fZ i)) (fun i j hi=>absurd hi (fZ i)) (fun i j hi=>absurd hi (fZ i)) trivial
   .rw[if_neg hml];have hb:l*sz+(hh-l)*sz<=n*sz:=(by rw[<-qy];exact nJ _ RS);have e1:o+off+l*sz=o+(off+l*sz):=RS;rw[e1];refine Gy w (fun j=>val (off+l*sz+j)) (fun hf=>(hone hf).1) dP (fun hf=>?_) (fun j hj=>?_) (fun j hj=>?_) RS trivial
    .have:=(hone hf).2;simp only[bY,kU] at this⊢;exact fun x hx=>this x (List.mem_of_mem_drop hx)
    .have:=hcell (off+l*sz+j) RS
     rwa[<-oG o] at this
    .rw[tQ];exact hrel _ RS
  .simp at h
 .simp at h
end
section
variable {E:Env}{B0:Nat}{Z:ah}{K:bq}{w:World}{new:Nat->Prop}
theorem grownCap_ge (w:World)(n old:Nat)(e:TypeId):n<=grownCap w n old e:=by show n<=n+_% _;exact lD _ _
def Done (E:Env)(B0:Nat)(new:Nat->Prop)(Z:ah)(K:bq)(w:World)(s:Sem Value)(v:V)(Z':ah):Prop:=
 ∃c w' K',s.run E.P w= .ok c w'/\Rel K' Z'.top w' v c/\Step E B0 new Z K w Z' K' w'
theorem Done.jr (h:bG E B0 Z K w){s:Sem Value}{v:V}(hs:∃c,s.run E.P w= .ok c w/\Rel K Z.top w v c):Done E B0 new Z K w s v Z:=by obtain⟨c,h1,h2⟩:=hs;exact⟨c,w,K,h1,h2,.refl h⟩
theorem Vf {v:V}{b:UInt8}(h:Ep v=some b):∃n,v= .int .u8 n/\b=UInt8.ofNat n.toNat:=by
 unfold Ep at h;split at h
 .simp only[iE] at h;exact⟨_,rfl,h.symm⟩
 .simp at h
theorem ad1 {src dst e:TypeId}(hs:E.P.underlying src=some (.slice e))(he:E.P.underlying e=some (.int .u8))(hd:E.P.underlying dst=some .string){b o cap:Nat}{l:List V}{bs:List UInt8}{T:Nat->Nat}(val:Nat->Value)(hcell:∀i,i<l.length->w.cell? (at_ b (o+i))=some (val i))(hrel:∀i,i<l.length->Rel K T w (l.getD i aJ) (val i))(hm:l.mapM Ep=some bs):
 ∃c,(convert src dst (.slice (some (at_ b o)) l.length cap)).run E.P w= .ok c w/\Rel K T w (.str bs) c:=by
 obtain⟨h1,h2⟩:=mapM_some hm;have hv:∀i (hi:i<l.length),∃n:Int,val i= .int .u8 n/\bs.getD i 0=UInt8.ofNat n.toNat:=by intro i hi;obtain⟨h3,h4⟩:=h2 i hi;obtain⟨n,e1,e2⟩:=Vf h4;have:=hrel i hi;rw[kD hi,e1] at this;refine⟨n,?_,by rw[kD h3];exact e2⟩;generalize val i=c at this;cases this;rfl
 have hr:=run_convert_bytes_arg (P:=E.P) w src e hs he b o l.length cap ((List.range l.length).map fun i=>intOf (val i)) aB (fun i hi=>by obtain⟨n,e1,_⟩:=hv i hi;rw[hcell i hi,e1];simp[List.getD,hi,e1,intOf]) dst hd;refine⟨_,hr,.str _ _ ?_⟩;rw[strOfNums_data];apply List.ext_getElem
 .simp[h1]
 .intro i hi1 hi2;have hi:i<l.length:=by simpa using hi1
  obtain⟨n,e1,e2⟩:=hv i hi;simp only[BG,BH,e1,intOf];rw[<-e2,kD hi2]
theorem amt (h:bG E B0 Z K w)(hB:B0<=w.heap.size){src dst:TypeId}{x v:V}{cx:Value}(hx:Rel K Z.top w x cx)(hv:Ah E.P Z src dst x=some v):
 Done E B0 new Z K w (convert src dst cx) v Z:=by
 unfold Ah at hv;split at hv
 .rename_i d k kk n hs hd;cases hx;simp only[iE] at hv;subst hv;exact Done.jr h ⟨_,by simp[convert,run_underlying hs,run_underlying hd,Conv.intToInt],.int _ _⟩
 .rename_i d s hs hd;cases hx with|str _ b hb=>
  simp only[iE] at hv;subst hv;exact Done.jr h ⟨.string b,by cases d<;>simp[convert,run_underlying hs,run_underlying hd],.str _ _ hb⟩
 .rename_i e c l hs hd;split at hv
  .rename_i he;simp only[aW] at hv;obtain⟨bs,hbs,rfl⟩:=hv;cases hx with
   |gD _ a ha hc=>
    simp at hbs;subst hbs;cases a with
    |none=>exact Done.jr h ⟨.string ByteArray.empty,run_convert_bytes_nil w src e hs he 0 0 dst hd,.str _ _ rfl⟩|some a=>have hl:(loadCells a 0).run E.P w= .ok #[] w:=(by simpa using run_loadCells_list (P:=E.P) w a [] (fun j v hj=>by simp at hj));refine Done.jr h ⟨.string ByteArray.empty,?_,.str _ _ rfl⟩;rw[run_convert_bytes_string w src dst e _ 0 0 hs he hd];simp[Conv.bytesToString,hl]
   |ak _ _ b o n cap val hle hn hcell hrel hc=>
    obtain⟨h1,h2⟩:=mapM_some hbs;have hn1:∀i,i<l.length->n=1:=fun i hi=>by obtain⟨_,h4⟩:=h2 i hi;obtain⟨q,e1,_⟩:=Vf h4;have:=hn i hi;rw[kD hi,e1] at this;exact this.symm
    refine Done.jr h (ad1 hs he hd (fun i=>val i 0) (fun i hi=>?_) (fun i hi=>?_) hbs)
    .have:=(hcell i 0 hi (by rw[hn1 i hi];omega)).1;rw[hn1 i hi] at this;simpa using this
    .have:=hrel i 0 hi (by rw[hn1 i hi];omega);obtain⟨_,h4⟩:=h2 i hi;obtain⟨q,e1,_⟩:=Vf h4;rw[kD hi,e1] at this⊢;exact this
  .simp at hv
 .rename_i e loc s off len cap bD ag hs hd;split at hv
  .rename_i he;simp only[iR] at hv;obtain⟨cs,hcs,hv⟩:=hv;split at hv
   .rename_i hle;simp only[aW] at hv;obtain⟨bs,hbs,rfl⟩:=hv;obtain⟨ho,hA,hks⟩:=h.wG hcs;obtain⟨_,kJ,_⟩:=h.obj _ _ _ ho;cases hx with
    |om=>simp at hbs;subst hbs;exact Done.jr h ⟨.string ByteArray.empty,run_convert_bytes_nil w src e hs he 0 0 dst hd,.str _ _ rfl⟩|aU _ _ _ _ _ _ _ fq hA hcc hlc hsz=>
     have hlen:((cs.drop off).take len).length=len:=dP;have key:=ad1 (w:=w) (K:=K) (T:=Z.top) hs he hd (cap:=fq) (b:=K.blk s) (o:=off) (l:=(cs.drop off).take len) (fun i=>(w.cell? (at_ (K.blk s) (off+i))).getD undef) ?_ ?_ hbs
     .rw[hlen] at key;exact Done.jr h key
     .intro i hi;rw[hlen] at hi;obtain⟨_,vals,t,g1,g2,g3,g4⟩:=kJ.2 (by rintro rfl;simp at hle;omega);have:w.cell? (at_ (K.blk s) (off+i))=some (vals.getD (off+i) undef):=(by simp[World.cell?,g1,show off+i<vals.size by omega]);simp[this]
     .intro i hi;rw[hlen] at hi;obtain⟨_,vals,t,g1,g2,g3,g4⟩:=kJ.2 (by rintro rfl;simp at hle;omega);have:w.cell? (at_ (K.blk s) (off+i))=some (vals.getD (off+i) undef):=(by simp[World.cell?,g1,show off+i<vals.size by omega]);rw[this,rz _ hi,tQ];exact g4 _ RS
   .simp at hv
  .simp at hv
 .simp at hv
end
section
variable {E:Env}{B0:Nat}{Z:ah}{K:bq}{w:World}{new:Nat->Prop}
theorem Gz {T:Nat->Nat}{x:V}{cx:Value}{n k:Nat}(hx:Rel K T w x cx)(h:idx x n=some k):∃kk i,cx= .int kk i/\0<=i/\i<n/\i.toNat=k/\k<n:=by
 simp only[idx,iR] at h;obtain⟨i,hi,h⟩:=h;split at h
 .rename_i hb;simp only[iE] at h;subst h;cases x<;>simp[pG] at hi;subst hi;cases hx;exact⟨_,_,rfl,hb.1,hb.2,rfl,RS⟩
 .simp at h
theorem amu {t:TypeId}{x i v:V}{cx ci:Value}{T:Nat->Nat}(hx:Rel K T w x cx)(hi:Rel K T w i ci)(h:p9 E.P t x i=some v):
 ∃c,(Instr.indexAt t cx ci).run E.P w= .ok c w/\Rel K T w v c:=by
 unfold p9 at h;split at h
 .rename_i e c l hu;simp only[iR] at h;obtain⟨sz,hsz,k,hk,el,hel,h⟩:=h;split at h
  .rename_i hcl;simp only[iE] at h;subst h;obtain⟨kk,q,rfl,h0,hlt,hq,hkl⟩:=Gz hi hk;cases hx with
   |gD=>simp at hkl|ak _ _ b o n cap val hle hn hcell hrel hc=>
    have ad2:l.getD k aJ=el:=(by simp[List.getD,hel]);have hn':n=sz:=(by rw[<-hn k hkl,ad2,hcl]);subst hn';have hrun:(Instr.indexAt t (.slice (some (at_ b o)) l.length cap) (.int kk q)).run E.P w= .ok (.pointer (some ((at_ b o).add (q.toNat*n)))) w:=(by simp[Instr.indexAt,run_underlying hu,asIntOf,h0,hlt,lI w hsz]);refine⟨_,hrun,?_⟩;rw[addr_add,hq];have:=Rel.aX (K:=K) (T:=T) (w:=w) el.cells 0 b (o+k*n) (fun j=>val k j) (fun j hj=>hcell k j hkl RS) (fun j hj=>by
     have:=hrel k j hkl RS
     rwa[ad2] at this)
    simpa using this
  .simp at h
 .rename_i e loc st off len cap bD ag hu;simp only[iR] at h;obtain⟨sz,hsz,k,hk,h⟩:=h;split at h
  .rename_i he;subst he;simp only[iE] at h;subst h;obtain⟨kk,q,rfl,h0,hlt,hq,hkl⟩:=Gz hi hk;cases hx with
   |om=>omega|aU _ _ _ _ _ _ _ fq hA hcc hle hks=>have hrun:(Instr.indexAt t (.slice (some (at_ (K.blk st) off)) len fq) (.int kk q)).run E.P w= .ok (.pointer (some ((at_ (K.blk st) off).add (q.toNat*sz)))) w:=(by simp[Instr.indexAt,run_underlying hu,asIntOf,h0,hlt,lI w hsz]);refine⟨_,hrun,?_⟩;rw[addr_add,hq];exact .ref _ _ _ hA
  .simp at h
 .rename_i n e loc st off hu;simp only[iR,aW] at h;obtain⟨sz,hsz,k,hk,rfl⟩:=h;obtain⟨kk,q,rfl,h0,hlt,hq,hkl⟩:=Gz hi hk;cases hx with|ref _ _ _ hA=>
  have hrun:(Instr.indexAt t (.pointer (some (at_ (K.blk st) off))) (.int kk q)).run E.P w= .ok (.pointer (some ((at_ (K.blk st) off).add (q.toNat*sz)))) w:=by simp[Instr.indexAt,run_underlying hu,asIntOf,Instr.sureAddr,h0,hlt,lI w hsz]
  refine⟨_,hrun,?_⟩;rw[addr_add,hq];exact .ref _ _ _ hA
 .rename_i n e cs off hu;simp only[iR,aW] at h;obtain⟨sz,hsz,k,hk,rfl⟩:=h;obtain⟨kk,q,rfl,h0,hlt,hq,hkl⟩:=Gz hi hk;cases hx with|aX _ _ b o val hcell hrel=>
  have hrun:(Instr.indexAt t (.pointer (some (at_ b (o+off)))) (.int kk q)).run E.P w= .ok (.pointer (some ((at_ b (o+off)).add (q.toNat*sz)))) w:=by simp[Instr.indexAt,run_underlying hu,asIntOf,Instr.sureAddr,h0,hlt,lI w hsz]
  refine⟨_,hrun,?_⟩;rw[addr_add,hq,oG];exact .aX _ _ b o val hcell hrel
 .simp at h
theorem amv {t:TypeId}{x i v:V}{cx ci:Value}{T:Nat->Nat}(hx:Rel K T w x cx)(hi:Rel K T w i ci)(h:Er E.P t x i=some v):
 ∃c,(Instr.index t cx ci).run E.P w= .ok c w/\Rel K T w v c:=by
 unfold Er at h;split at h
 .rename_i n e cs hu;simp only[iR] at h;obtain⟨k,hk,sz,hsz,h⟩:=h;obtain⟨kk,q,rfl,h0,hlt,hq,hkl⟩:=Gz hi hk;cases hx with|agg _ vs hl hr=>
  obtain⟨c,hc,hrel⟩:=Gw (P:=E.P) hl hr h;exact⟨c,by simp[Instr.index,run_underlying hu,asIntOf,h0,hlt,lI w hsz,hq,hc],hrel⟩
 .rename_i s hu;simp only[iR,aW] at h;obtain⟨k,hk,b,hb,rfl⟩:=h;obtain⟨kk,q,rfl,h0,hlt,hq,hkl⟩:=Gz hi hk;cases hx with|str _ ba hba=>
  have hsz:k<ba.size:=by rw[<-hba] at hkl;simpa using hkl
  have hbk:ba[k]=b:=by subst hba;have:=(qx.1 hb).2;rw[<-this];rfl
  refine⟨.int .u8 b.toNat,?_,.int _ _⟩;have:ba[q.toNat]? =some b:=by rw[hq];simp[hsz,hbk]
  simp[Instr.index,run_underlying hu,asIntOf,h0,this]
 .simp at h
theorem ad3 {t:TypeId}{f o:Nat}{u:TypeId}{x v:V}{cx:Value}{T:Nat->Nat}(hx:Rel K T w x cx)(hf:xL E.P t f=some (o,u))(h:(match x with|.ref loc s off=>some (V.ref loc s (off+o))|.aX cs off=>some (.aX cs (off+o))|_=>none)=some v):
 ∃c,(Instr.fieldAt t cx f).run E.P w= .ok c w/\Rel K T w v c:=by
 obtain⟨fs,g,n,hu,hg,ho,hu',hn⟩:=adX hf;subst hu';have hrun:∀b q,(Instr.fieldAt t (.pointer (some (at_ b q))) f).run E.P w= .ok (.pointer (some (at_ b (q+o)))) w:=by intro b q;simp[Instr.fieldAt,run_underlying hu,hg,Instr.sureAddr,fieldPlace,lI w hn,addr_add,ho]
 cases x with
 |ref loc s off=>
  cases hx with|ref _ _ _ hA=>
  simp only[iE] at h;subst h;exact⟨_,hrun _ _,.ref _ _ _ hA⟩
 |aX cs off=>
  cases hx with|aX _ _ b o' val hcell hrel=>
  simp only[iE] at h;subst h;refine⟨_,hrun _ _,?_⟩;rw[oG];exact .aX _ _ b o' val hcell hrel
 |_=>simp at h
theorem Vg (h:bG E B0 Z K w){t:TypeId}{x v:V}{cx:Value}(hx:Rel K Z.top w x cx)(hv:(match x with|.ref loc s off=>(Z.dK loc s).bind fun cs=>gV E.P t cs off|.aX cs off=>gV E.P t cs off|_=>none)=some v):
 ∃c,(Instr.loadAt t cx).run E.P w= .ok c w/\Rel K Z.top w v c:=by
 cases x with
 |ref loc s off=>
  simp only[iR] at hv;obtain⟨cs,hcs,hv⟩:=hv;cases hx with|ref _ _ _ hA=>
  obtain⟨ho,_,_⟩:=h.wG hcs;obtain⟨_,kJ,_⟩:=h.obj _ _ _ ho;by_cases hne:cs=[]
  .subst hne;obtain⟨c,h1,h2⟩:=U2 (P:=E.P) (K:=K) (T:=Z.top) (w:=w) (cs:=[]) (b:=K.blk s) (o:=0) (fun _=>undef) (fun i hi=>absurd hi (fZ i)) (fun i hi=>absurd hi (fZ i)) hv;exact⟨c,by simpa [Instr.loadAt,Instr.sureAddr] using h1,h2⟩
  .obtain⟨_,vals,t',g1,g2,g3,g4⟩:=kJ.2 hne;obtain⟨c,h1,h2⟩:=U2 (P:=E.P) (K:=K) (T:=Z.top) (w:=w) (b:=K.blk s) (o:=0) (fun i=>vals.getD i undef) (fun i hi=>by have:i<vals.size:=RS;simp[World.cell?,g1,this]) g4 hv;exact⟨c,by simpa [Instr.loadAt,Instr.sureAddr] using h1,h2⟩
 |aX cs off=>
  cases hx with|aX _ _ b o val hcell hrel=>
  obtain⟨c,h1,h2⟩:=U2 (P:=E.P) (K:=K) (T:=Z.top) (w:=w) (b:=b) (o:=o) val (fun i hi=>(hcell i hi).1) hrel hv;exact⟨c,by simpa [Instr.loadAt,Instr.sureAddr] using h1,h2⟩
 |_=>simp at hv
theorem rA {J:Type}{l r:List J}{i:Nat}(h:i<l.length)(d:J):(l++r).getD i d=l.getD i d:=by simp[List.getD,List.getElem?_append,h]
theorem rC {J:Type}{l r:List J}{i:Nat}(h:l.length<=i)(d:J):(l++r).getD i d=r.getD (i-l.length) d:=by simp[List.getD,List.getElem?_append,Nat.not_lt.2 h]
theorem Vh {cs vs:List V}{off i:Nat}(h:off+vs.length<=cs.length):(gI cs off vs).getD i aJ=if off<=i/\i<off+vs.length then vs.getD (i-off) aJ else cs.getD i aJ:=by
 unfold gI;have hl:(cs.take off).length=off:=dP
 rw[eZ];by_cases h1:i<off
 .rw[rA RS,rz _ h1,if_neg RS]
 .rw[rC RS,hl];by_cases h2:i-off<vs.length
  .rw[rA h2,if_pos RS]
  .rw[rC RS,tQ,if_neg RS];congr 1;omega
theorem BS {cs vs:List V}{off:Nat}(h:off+vs.length<=cs.length):(gI cs off vs).length=cs.length:=by unfold gI;simp;omega
theorem amw (h:bG E B0 Z K w)(hB:B0<=w.heap.size){t:TypeId}{loc:Loc}{s off:Nat}{cs:List V}{x:V}{ca cx:Value}(ha:Rel K Z.top w (.ref loc s off) ca)(hx:Rel K Z.top w x cx)(hcs:Z.dK loc s=some cs)(hsz:some x.cells.length=dF E.P t)(hle:off+x.cells.length<=cs.length)(hone:bY x.cells=true):
 ∃w',(Instr.storeAt t ca cx).run E.P w= .ok () w'/\Step E B0 new Z K w (Z.setObj loc s (.cells (gI cs off x.cells))) K w':=by
 cases ha with|ref _ _ _ hA=>
 have hraw:fC x=true:=by cases x<;>simp_all[fC,bY,V.cells,oneCell]
 obtain⟨hcl,hcr⟩:=BQ hx hraw;obtain⟨ho,_,_⟩:=h.wG hcs;obtain⟨_,kJ,_⟩:=h.obj _ _ _ ho;have hone':∀v∈cx.cells.toList,v.oneCell'=true:=by
  intro v hv;obtain⟨i,hi,rfl⟩:=Gj.1 hv;have hi':i<cx.cells.size:=jH
  have:=hcr i RS;rw[Gv hi'] at this;have h1:oneCell (x.cells.getD i aJ)=true:=by simp only[bY,kU] at hone;rw[kD RS];exact hone _ (lX _)
  simpa using (adS this h1).1
 have amx:(Instr.storeAt t (.pointer (some (at_ (K.blk s) off))) cx).run E.P w=(storeCells (at_ (K.blk s) off) cx.cells.toList).run E.P w:=by have:cx.cells.size=x.cells.length:=hcl.symm;simp[Instr.storeAt,Instr.sureAddr,storeVar,lI w hsz.symm,this]
 rw[amx];by_cases hne:cs=[]
 .subst hne;have h0:x.cells=[]:=by cases hx:x.cells with|nil=>rfl|cons a b=>simp[hx] at hle
  have h0':cx.cells.toList=[]:=by
   have:cx.cells.size=0:=by rw[<-hcl,h0];rfl
   simpa using this
  rw[h0',h0];have hoff:off=0:=by simpa [h0] using hle
  have hsp:gI [] off []=([]:List V):=by simp[gI]
  rw[hsp];have e:Z.setObj loc s (.cells [])=Z:=by
   unfold ah.setObj;have:upd Z.obj loc (some (s,jZ.cells []))=Z.obj:=by
    funext l;unfold upd;split
    .rename_i hl;rw[hl,ho]
    .rfl
   rw[this]
  rw[e];exact⟨w,rfl,.refl h⟩
 .obtain⟨hb0,vals,t',g1,g2,g3,g4⟩:=kJ.2 hne;have hrun:=run_storeCells_at E.P (K.blk s) off t' cx.cells.toList 0 vals w g1 (by simp[<-hcl];omega) hone';refine⟨_,hrun,?_⟩;have hlt:=lt_of_heap g1;have hheap:=setRow_heap w (K.blk s) vals (vals.toList.take (off+0)++cx.cells.toList++vals.toList.drop (off+0+cx.cells.toList.length)).toArray t' (0,0) g1;have hsize:(vals.toList.take (off+0)++cx.cells.toList++vals.toList.drop (off+0+cx.cells.toList.length)).toArray.size=vals.size:=by simp[<-hcl];omega
  have amy:Only (K.blk s) w (w.setRow (K.blk s) (vals.toList.take (off+0)++cx.cells.toList++vals.toList.drop (off+0+cx.cells.toList.length)).toArray):=by refine⟨rfl,rfl,rfl,by simp[World.setRow],fun k hk _=>?_⟩;simp[World.setRow,Array.getElem?_modify,Ne.symm hk]
  refine Step.setCells h hB ho hne g1 amy hheap hsize (by intro h0;have:=BS hle;rw[h0] at this;exact hne (lF this.symm)) (by rw[BS hle,hsize];exact g3) (fun e i hi=>?_);rw[BS hle] at hi;rw[Vh hle];have Lb:i<vals.size:=RS
  have hval:(vals.toList.take (off+0)++cx.cells.toList++vals.toList.drop (off+0+cx.cells.toList.length)).toArray.getD i undef=if off<=i/\i<off+cx.cells.size then cx.cells.getD (i-off) undef else vals.getD i undef:=by
   have hl:(vals.toList.take (off+0)).length=off:=dP
   have harr:∀(l:List Value),l.toArray.getD i undef=l.getD i undef:=fun l=>by simp[Array.getD,List.getD];split<;>simp_all
   rw[harr,eZ];by_cases h1:i<off
   .rw[rA RS,rz _ RS,if_neg RS];simp[List.getD,Array.getD,Lb]
   .rw[rC RS,hl];by_cases h2:i-off<cx.cells.size
    .rw[rA rV,if_pos RS];simp[List.getD,Array.getD,h2]
    .rw[rC dP,tQ,if_neg RS];have:off+0+cx.cells.toList.length+(i-off-cx.cells.toList.length)=i:=dP;rw[this];simp[List.getD,Array.getD,Lb]
  rw[hval,<-hcl];by_cases hh:off<=i/\i<off+x.cells.length
  .rw[if_pos hh,if_pos hh];exact(hcr _ RS).ext e
  .rw[if_neg hh,if_neg hh];exact(g4 i hi).ext e
end
section
variable {E:Env}{B0:Nat}{Z:ah}{K:bq}{w:World}{new:Nat->Prop}{T:Nat->Nat}
theorem run_checkKey {kt:TypeId}{k:V}{ck:Value}(hk:Rel K T w k ck)(h:oh E.P kt k=true)(b:Bool)(n:Nat):(Instr.checkKey b (n+1) kt ck).run E.P w= .ok () w:=by
 unfold oh at h;split at h
 .rename_i hu;cases hk;simp[Instr.checkKey,run_underlying hu]
 .rename_i hu;cases hk;simp[Instr.checkKey,run_underlying hu]
 .rename_i hu;cases hk;simp[Instr.checkKey,run_underlying hu]
 .simp at h
theorem Vi {kt:TypeId}{k a:V}{ck ca:Value}{d:TypeDesc}{r:Bool}(hd:E.P.underlying kt=some d)(hk:Rel K T w k ck)(ha:Rel K T w a ca)(hf:oh E.P kt k=true)(h:p8 k a=some r):
 Instr.sameNow d ck ca=some r:=by
 unfold oh at hf;split at hf
 .rename_i hu;rw[hd] at hu;simp only[iE] at hu;subst hu;unfold p8 at h;split at h<;>simp_all;cases hk;cases ha;obtain⟨rfl,rfl⟩:=h;simp[Instr.sameNow]
 .rename_i hu;rw[hd] at hu;simp only[iE] at hu;subst hu;unfold p8 at h;split at h<;>simp_all;cases hk with|str _ b1 h1=>cases ha with|str _ b2 h2=>
  subst h;rw[<-h1,<-h2,U3];rfl
 .rename_i hu;rw[hd] at hu;simp only[iE] at hu;subst hu;unfold p8 at h;split at h<;>simp_all;cases hk;cases ha;subst h;rfl
 .simp at hf
theorem Vj {kt:TypeId}{k:V}{ck:Value}{d:TypeDesc}(hd:E.P.underlying kt=some d)(hk:Rel K T w k ck)(hf:oh E.P kt k=true):
 ∀(es:List MapEntry)(ks vs:List V)(i:Nat)(r:Option V),ks.length=es.length->vs.length=es.length->(∀j,j<es.length->Rel K T w (ks.getD j aJ) (es.getD j default).key)->
  r9 k ks vs=some r->(r=none/\Instr.findNow d ck es i=some none)\/∃j,j<es.length/\r=some (vs.getD j aJ)/\Instr.findNow d ck es i=some (some (i+j,(es.getD j default).val))/\
   (∃b,p8 k (ks.getD j aJ)=some b/\b=true)
 | [],[],[],i,r,_,_,_,h=>by simp only[r9,iE] at h;subst h;exact .inl ⟨rfl,rfl⟩|e::es,a::ks,v::vs,i,r,h1,h2,hr,h=>by
  simp only[r9,iR] at h;obtain⟨b,hb,h⟩:=h;have hs:=Vi hd hk (hr 0 aB) hf hb;simp only[List.getD_cons_zero] at hs;cases b with
  |true=>simp only[if_true,iE] at h;subst h;exact .inr ⟨0,aB,rfl,by simp[Instr.findNow,hs],true,hb,rfl⟩|false=>
   simp only[bZ,if_false] at h;rcases Vj hd hk hf es ks vs (i+1) r Bz rV (fun j hj=>by simpa using hr (j+1) tC) h with ⟨e1,e2⟩| ⟨j,hj,e1,e2,e3⟩
   .exact .inl ⟨e1,by simp[Instr.findNow,hs,e2]⟩
   .refine .inr ⟨j+1,tC,by simpa using e1,?_,by simpa using e3⟩;simp only[Instr.findNow,hs,e2,List.getD_cons_succ];rw[show i+1+j=i+(j+1) by omega]
 | [],_::_,_,_,_,h1,_,_,_=>by simp at h1| [],[],_::_,_,_,_,h2,_,_=>by simp at h2|_::_,[],_,_,_,h1,_,_,_=>by simp at h1|_::_,_::_,[],_,_,_,h2,_,_=>by simp at h2
theorem ad4 {kt:TypeId}{k:V}(h:oh E.P kt k=true):∃d,E.P.underlying kt=some d:=by unfold oh at h;split at h<;>first|exact⟨_,by assumption⟩|simp at h
theorem amA (h:bG E B0 Z K w){t:TypeId}{m k v:V}{cm ck:Value}{ok:Bool}(hm:Rel K Z.top w m cm)(hk:Rel K Z.top w k ck)(hv:yY E.P Z t m k ok=some v):
 ∃c,(Instr.lookup t cm ck ok).run E.P w= .ok c w/\Rel K Z.top w v c:=by
 simp only[yY,iR] at hv;obtain⟨⟨kt,et⟩,hmt,hv⟩:=hv;have hu:=adW hmt;split at hv
 .rename_i hf;simp only[iR,aW] at hv;obtain⟨⟨ks,vs⟩,hkv,r,hlk,⟨v',b⟩,hvb,hv⟩:=hv;obtain⟨d,hd⟩:=ad4 hf;have hes:∃es:Array MapEntry,(cm= .map none/\es= #[]\/∃b dL,cm= .map (some b)/\w.heap[b]? =some (.map es dL))/\ks.length=es.size/\vs.length=es.size/\
   (∀i,i<es.size->Rel K Z.top w (ks.getD i aJ) (es.getD i default).key)/\(∀i,i<es.size->Rel K Z.top w (vs.getD i aJ) (es.getD i default).val):=by
   split at hkv
   .cases hm;simp only[iE,aS] at hkv;obtain⟨rfl,rfl⟩:=hkv;exact⟨#[],.inl ⟨rfl,rfl⟩,rfl,rfl,fun i hi=>absurd hi (fZ i),fun i hi=>absurd hi (fZ i)⟩
   .rename_i loc s;unfold ah.jh at hkv;split at hkv
    .rename_i s' ks' vs' ho;split at hkv
     .rename_i hs;subst hs;simp only[iE,aS] at hkv;obtain⟨rfl,rfl⟩:=hkv;obtain⟨_,kJ,_⟩:=h.obj _ _ _ ho;obtain⟨_,es,dL,g1,g2,g3,g4,g5⟩:=kJ;cases hm with|dQ _ _ hA=>
      exact⟨es,.inr ⟨_,_,rfl,g1⟩,g2,g3,g4,g5⟩
     .simp at hkv
    .simp at hkv
   .cases hm with|eF _ _ b es dL hM hb h1 h2 h3 h4=>
    simp only[iE,aS] at hkv;obtain⟨rfl,rfl⟩:=hkv;exact⟨es,.inr ⟨_,_,rfl,hb⟩,h1,h2,h3,h4⟩
   .simp at hkv
  obtain⟨es,hrun,l1,l2,r1,r2⟩:=hes;have hck:=run_checkKey (E:=E) hk hf es.isEmpty 9999;have hgd:∀j,es.toList.getD j default=es.getD j default:=fun j=>by simp[List.getD,Array.getD];split<;>simp_all
  have hfind:=Vj (E:=E) (K:=K) (T:=Z.top) (w:=w) hd hk hf es.toList ks vs 0 r (by simpa using l1) (by simpa using l2) (fun j hj=>by rw[hgd];exact r1 j tC) hlk;have hend:∃c,(do
   let (v,ok')<-match<-Instr.findKey kt ck es.toList with
    |some (_,v)=>pure (v,true)|none=>pure (<-zeroValue et,false)
   pure (if ok then .tuple #[v,.bool ok'] else v):Sem Value).run E.P w= .ok c w/\Rel K Z.top w v c:=by
   have hfin:∀c,Rel K Z.top w v' c->Rel K Z.top w v (if ok then .tuple #[c,.bool b] else c):=by
    intro c hc;subst hv;cases ok with
    |true=>
     refine .bK _ _ rfl (fun i hi=>?_)
     match i,hi with
     |0,_=>exact hc|1,_=>exact .bool b
    |false=>exact hc
   rcases hfind with ⟨rfl,e2⟩| ⟨j,hj,rfl,e2,_⟩
   .simp only[aW,aS] at hvb;obtain⟨z,hz,rfl,rfl⟩:=hvb;obtain⟨cz,hz1,hz2⟩:=BR w hz;exact⟨_,by simp[Instr.findKey,run_underlying hd,e2,hz1],hfin cz (hz2 _ _)⟩
   .simp only[iE,aS] at hvb;obtain⟨rfl,rfl⟩:=hvb;refine⟨if ok then .tuple #[(es.toList.getD j default).val,.bool true] else (es.toList.getD j default).val,by simp[Instr.findKey,run_underlying hd,e2],hfin _ ?_⟩;have:=r2 j tC
    rwa[hgd]
  obtain⟨c,hc1,hc2⟩:=hend;refine⟨c,?_,hc2⟩;unfold Instr.lookup;rcases hrun with ⟨rfl,rfl⟩| ⟨b,dL,rfl,hb⟩
  .simp only[Sem.run_bind,run_underlying hu,Result.andThen_ok,Sem.run_pure,show (10000:Nat)=9999+1 from rfl,hck];simp only[Sem.run_bind] at hc1;exact hc1
  .have hg:(getObj b).run E.P w= .ok (.map es dL) w:=by simp[getObj,Sem.run,hb]
   simp only[Sem.run_bind,run_underlying hu,Result.andThen_ok,Sem.run_pure,show (10000:Nat)=9999+1 from rfl,hg,hck];simp only[Sem.run_bind] at hc1;exact hc1
 .simp at hv
theorem amB {k a:V}(h:p8 k a=some true):k=a:=by unfold p8 at h;split at h<;>simp_all
theorem amC {kt:TypeId}{k:V}{ck ca:Value}(hk:Rel K T w k ck)(ha:Rel K T w k ca)(hf:oh E.P kt k=true)(n:Nat):Instr.sameBits n ck ca=true:=by
 unfold oh at hf;split at hf
 .cases hk;cases ha;cases n<;>simp[Instr.sameBits]
 .cases hk with|str _ b1 h1=>cases ha with|str _ b2 h2=>
  have:(b1==b2)=true:=by rw[<-U3,h1,h2];simp
  cases n<;>simpa [Instr.sameBits] using this
 .cases hk;cases ha;cases n<;>simp[Instr.sameBits]
 .simp at hf
theorem ad5 {k v:V}:∀(ks vs ks' vs':List V),yX k v ks vs=some (ks',vs')->ks.length=vs.length->(r9 k ks vs=some none/\ks'=ks++[k]/\vs'=vs++[v])\/∃j,j<ks.length/\ks'=ks.set j k/\vs'=vs.set j v/\r9 k ks vs=some (some (vs.getD j aJ))/\ks.getD j aJ=k/\∀i,i<j->p8 k (ks.getD i aJ)=some false
 | [],[],ks',vs',h,_=>by simp only[yX,iE,aS] at h;exact .inl ⟨rfl,h.1.symm,h.2.symm⟩|a::ks,b::vs,ks',vs',h,hl=>by
  simp only[yX,iR] at h;obtain⟨q,hq,h⟩:=h;cases q with
  |true=>simp only[if_true,iE,aS] at h;refine .inr ⟨0,aB,by rw[<-h.1];simp,by rw[<-h.2];simp,by simp[r9,hq],by simpa using (amB hq).symm,fun i hi=>absurd hi (fZ i)⟩
  |false=>
   simp only[bZ,if_false,aW,aS] at h;obtain⟨⟨x,y⟩,hxy,h1,h2⟩:=h;rcases ad5 ks vs x y hxy xH with ⟨e1,e2,e3⟩| ⟨j,hj,e1,e2,e3,e4,e5⟩
   .exact .inl ⟨by simp[r9,hq,e1],by rw[<-h1,e2];rfl,by rw[<-h2,e3];rfl⟩
   .refine .inr ⟨j+1,tC,by rw[<-h1,e1];rfl,by rw[<-h2,e2];rfl,by simp[r9,hq,e3],by simpa using e4,fun i hi=>?_⟩;cases i with
    |zero=>simpa using hq|succ i=>simpa using e5 i RS
 | [],_::_,_,_,_,hl=>by simp at hl|_::_,[],_,_,_,hl=>by simp at hl
theorem ad6 {d:TypeDesc}{k:V}{ck:Value}{kt:TypeId}(hd:E.P.underlying kt=some d)(hk:Rel K T w k ck)(hf:oh E.P kt k=true):
 ∀(es:List MapEntry)(ks:List V)(i j:Nat),ks.length=es.length->(∀q,q<es.length->Rel K T w (ks.getD q aJ) (es.getD q default).key)->j<es.length->
  (∀q,q<j->p8 k (ks.getD q aJ)=some false)->ks.getD j aJ=k->Instr.findNow d ck es i=some (some (i+j,(es.getD j default).val))
 |e::es,a::ks,i,0,h1,hr,hj,hn,he=>by
  have hr0:=hr 0 aB;simp only[List.getD_cons_zero] at he hr0;subst he;have hs:p8 a a=some true:=by unfold oh at hf;split at hf<;>first| (simp[p8];done)| (simp at hf;done)
  have:=Vi hd hk hr0 hf hs;simp[Instr.findNow,this]
 |e::es,a::ks,i,j+1,h1,hr,hj,hn,he=>by have h0:=hn 0 RS;simp only[List.getD_cons_zero] at h0;have hr0:=hr 0 aB;simp only[List.getD_cons_zero] at hr0;have:=Vi hd hk hr0 hf h0;have ih:=ad6 hd hk hf es ks (i+1) j Bz (fun q hq=>by simpa using hr (q+1) (by simpa using hq)) tC (fun q hq=>by simpa using hn (q+1) RS) (by simpa using he);simp only[Instr.findNow,this,ih,List.getD_cons_succ];rw[show i+1+j=i+(j+1) by omega]
 | [],_,_,_,_,_,hj,_,_=>by simp at hj|_::_,[],_,_,h1,_,_,_,_=>by simp at h1
theorem ad7 {w:World}{b:Nat}{o o':Obj}(_:w.heap[b]? =some o):Only b w {w with heap:=w.heap.setIfInBounds b o'}:=by refine⟨rfl,rfl,rfl,aB,fun k hk _=>?_⟩;simp[Ne.symm hk]
theorem ad8 (h:bG E B0 Z K w)(hB:B0<=w.heap.size){t:TypeId}{m k v:V}{cm ck cv:Value}{Z':ah}(hm:Rel K Z.top w m cm)(hk:Rel K Z.top w k ck)(hv:Rel K Z.top w v cv)(hu:uY E.P Z t m k v=some Z'):∃w',(Instr.mapUpdate t cm ck cv).run E.P w= .ok () w'/\Step E B0 new Z K w Z' K w'/\Z'.top=Z.top:=by
 simp only[uY,iR] at hu;obtain⟨⟨kt,et⟩,hmt,hu⟩:=hu;have hun:=adW hmt;split at hu
 .rename_i hf;split at hu
  .rename_i loc s;simp only[iR,aW] at hu;obtain⟨⟨ks,vs⟩,hmp,⟨ks',vs'⟩,hst,rfl⟩:=hu;unfold ah.jh at hmp;split at hmp
   .rename_i s' GA GD ho;split at hmp
    .rename_i hs;subst hs;simp only[iE,aS] at hmp;obtain⟨rfl,rfl⟩:=hmp;obtain⟨_,kJ,_⟩:=h.obj _ _ _ ho;obtain⟨hb0,es,dL,g1,g2,g3,g4,g5⟩:=kJ;cases hm with|dQ _ _ hA=>
     obtain⟨d,hd⟩:=ad4 hf;have hck:=run_checkKey (E:=E) hk hf false 9999;have hgd:∀j,es.toList.getD j default=es.getD j default:=fun j=>by simp[List.getD,Array.getD];split<;>simp_all
     have hst':yX k v GA GD=some (ks',vs'):=hst;rcases ad5 _ _ _ _ hst' RS with ⟨e1,rfl,rfl⟩| ⟨j,hj,rfl,rfl,e1,e2,e3⟩
     .have hfind:=Vj (E:=E) (K:=K) (T:=Z.top) (w:=w) hd hk hf es.toList GA GD 0 none (by simpa using g2) (by simpa using g3) (fun j hj=>by rw[hgd];exact g4 j tC) e1;have hfn:Instr.findNow d ck es.toList 0=some none:=by
       rcases hfind with ⟨_,e⟩| ⟨_,_,e,_⟩
       .exact e
       .cases e
      refine⟨{w with heap:=w.heap.setIfInBounds (K.blk s') (.map (es.push {key:=ck,val:=cv,born:=dL}) (dL+1))},?_,?_,rfl⟩
      .unfold Instr.mapUpdate;simp only[Sem.run_bind,run_underlying hun,Result.andThen_ok,show (10000:Nat)=9999+1 from rfl];simp[getObj,setObj,Sem.run,g1,hck,Instr.findKey,run_underlying hd,hfn]
      .have hlt:=lt_of_heap g1;refine Step.adQ h hB ho g1 (ad7 g1) (es':=es.push {key:=ck,val:=cv,born:=dL}) (Ql:=dL+1) (by simp[hlt]) (by simp[g2]) (by simp[g3]) (fun e=>?_);constructor
       .intro i hi;by_cases hi':i<es.size
        .rw[rA RS];have:(es.push {key:=ck,val:=cv,born:=dL}).getD i default=es.getD i default:=(by simp[Array.getD,hi',Array.getElem_push,Nat.lt_succ_of_lt hi']);rw[this];exact(g4 i hi').ext e
        .have:i=es.size:=KO;subst this;rw[rC RS,g2];simp;exact hk.ext e
       .intro i hi;by_cases hi':i<es.size
        .rw[rA RS];have:(es.push {key:=ck,val:=cv,born:=dL}).getD i default=es.getD i default:=(by simp[Array.getD,hi',Array.getElem_push,Nat.lt_succ_of_lt hi']);rw[this];exact(g5 i hi').ext e
        .have:i=es.size:=KO;subst this;rw[rC RS,g3];simp;exact hv.ext e
     .have hj':j<es.size:=RS;have hfn:=ad6 (E:=E) (K:=K) (T:=Z.top) (w:=w) hd hk hf es.toList GA 0 j (by simpa using g2) (fun q hq=>by rw[hgd];exact g4 q (by simpa using hq)) (by simpa using hj') e3 e2;rw[hgd] at hfn;have hsb:Instr.sameBits 10000 (es.getD j default).key ck=true:=(by have:=g4 j hj';rw[e2] at this;exact amC (E:=E) this hk hf _);have hgj:es.getD j default=es[j]:=(by simp[Array.getD,hj']);refine⟨{w with heap:=w.heap.setIfInBounds (K.blk s') (.map (es.modify j fun e=>{e with key:=ck,val:=cv}) dL)},?_,?_,rfl⟩
      .unfold Instr.mapUpdate;simp only[Sem.run_bind,run_underlying hun,Result.andThen_ok,show (10000:Nat)=9999+1 from rfl];rw[hgj] at hsb hfn;simp[getObj,setObj,Sem.run,g1,hck,Instr.findKey,run_underlying hd,hfn,hj',Instr.keyThatStays,hsb]
      .have hlt:=lt_of_heap g1;refine Step.adQ h hB ho g1 (ad7 g1) (es':=es.modify j fun e=>{e with key:=ck,val:=cv}) (Ql:=dL) (by simp[hlt]) (by simp[g2]) (by simp[g3]) (fun e=>?_);have hmod:∀i,i<es.size->(es.modify j fun e=>{e with key:=ck,val:=cv}).getD i default=if j=i then {es.getD i default with key:=ck,val:=cv} else es.getD i default:=(by intro i hi;simp only[Array.getD,Array.size_modify,hi,dif_pos];show (es.modify j _)[i]'_=_;rw[Array.getElem_modify];split<;>simp_all)
       constructor
       .intro i hi;have hi':i<es.size:=jH;rw[hmod i hi'];by_cases hji:j=i
        .subst hji;have:(GA.set j k).getD j aJ=k:=(by simp[List.getD,hj]);rw[this];simp;exact hk.ext e
        .have:(GA.set j k).getD i aJ=GA.getD i aJ:=(by simp[List.getD,hji]);rw[this];simp only[hji,if_false];exact(g4 i hi').ext e
       .intro i hi;have hi':i<es.size:=jH;rw[hmod i hi'];by_cases hji:j=i
        .subst hji;have:(GD.set j v).getD j aJ=v:=(by simp[List.getD,show j<GD.length by omega]);rw[this];simp;exact hv.ext e
        .have:(GD.set j v).getD i aJ=GD.getD i aJ:=(by simp[List.getD,hji]);rw[this];simp only[hji,if_false];exact(g5 i hi').ext e
    .simp at hmp
   .simp at hmp
  .simp at hu
 .simp at hu
end
section
variable {E:Env}{B0:Nat}{Z:ah}{K:bq}{w:World}{new:Nat->Prop}{T:Nat->Nat}
theorem ad9 (off:Nat):∀(l:List (Value×Nat))(cs:Array Value),(l.foldl (fun cs (c,j)=>cs.setIfInBounds (off+j) c) cs).size=cs.size
 | [],_=>rfl|x::l,cs=>by rw[List.foldl_cons,ad9 off l];simp
theorem aea (off:Nat):∀(vs:List Value)(k:Nat)(cs:Array Value),off+k+vs.length<=cs.size->∀i,i<cs.size->((vs.zipIdx k).foldl (fun cs (c,j)=>cs.setIfInBounds (off+j) c) cs).getD i undef=if off+k<=i/\i<off+k+vs.length then vs.getD (i-(off+k)) undef else cs.getD i undef
 | [],k,cs,_,i,_=>dP|v::vs,k,cs,h,i,hi=>by
  simp only[List.zipIdx_cons,List.foldl_cons];rw[aea off vs (k+1) _ (by simp at h⊢;omega) i jH];have hs:(cs.setIfInBounds (off+k) v).getD i undef=if off+k=i then v else cs.getD i undef:=by simp only[Array.getD,Array.size_setIfInBounds,hi,dif_pos];show (cs.setIfInBounds (off+k) v)[i]'_=_;rw[Array.getElem_setIfInBounds];split<;>rfl
  rw[hs];simp only[List.length_cons] at h⊢;by_cases h1:off+k=i
  .subst h1;rw[if_neg RS,if_pos rfl,if_pos RS];simp
  .by_cases h2:off+(k+1)<=i/\i<off+(k+1)+vs.length
   .rw[if_pos h2,if_pos RS];have:i-(off+k)=(i-(off+(k+1)))+1:=RS;rw[this,List.getD_cons_succ]
   .rw[if_neg h2,if_neg h1,if_neg RS]
theorem Qm (a:Array Value)(i:Nat):a.toList.getD i undef=a.getD i undef:=by simp[List.getD,Array.getD];split<;>simp_all
def GH (K:bq)(T:Nat->Nat)(w:World):List (Nat×V)->List (Nat×Value)->Prop
 | [],[]=>True| (i,v)::a,(j,c)::b=>i=j/\Rel K T w v c/\GH K T w a b|_,_=>False
theorem Lc {place:Nat->Option (Nat×Nat)}{place':Nat->Option (Nat×Nat)}(hp:∀i x,place i=some x->place' i=some x):
 ∀(parts:List (Nat×V))(parts':List (Nat×Value))(cs cs':List V)(vs:Array Value),GH K T w parts parts'->La K T w cs vs->rY place cs parts=some cs'->
  ∃vs',Instr.fill place' vs parts'=some vs'/\La K T w cs' vs'/\vs'.size=vs.size
 | [],[],cs,cs',vs,_,hr,h=>by simp only[rY,iE] at h;subst h;exact⟨vs,rfl,hr,rfl⟩| (i,v)::ps,(j,c)::ps',cs,cs',vs,hpp,hr,h=>by
   obtain⟨rfl,hv,hpp⟩:=hpp;unfold rY at h;cases hpl:place i with
   |none=>simp[hpl] at h|some x=>
    obtain⟨off,size⟩:=x;simp only[hpl] at h;split at h
    .rename_i hc;obtain⟨h1,h2,h3⟩:=hc;obtain⟨hl,hcr⟩:=BQ hv h3;have hsz:(c.cells.zipIdx.foldl (fun cs (c,j)=>cs.setIfInBounds (off+j) c) vs).size=vs.size:=(by rw[<-Array.foldl_toList,Array.toList_zipIdx];exact ad9 off _ _);have hget:∀i,i<vs.size->(c.cells.zipIdx.foldl (fun cs (c,j)=>cs.setIfInBounds (off+j) c) vs).getD i undef=if off<=i/\i<off+c.cells.size then c.cells.getD (i-off) undef else vs.getD i undef:=by
      intro i hi;rw[<-Array.foldl_toList,Array.toList_zipIdx];have:=aea off c.cells.toList 0 vs (by simp;have:=hr.1;omega) i hi;rw[this];simp only[Nat.add_zero,Array.length_toList];split
      .exact Qm _ _
      .rfl
     have hrl:La K T w (gI cs off v.cells) (c.cells.zipIdx.foldl (fun cs (c,j)=>cs.setIfInBounds (off+j) c) vs):=by
      refine⟨by rw[BS RS,hsz];exact hr.1,fun i hi=>?_⟩;rw[BS RS] at hi;rw[Vh RS,hget i (by have:=hr.1;omega),<-hl];by_cases hh:off<=i/\i<off+v.cells.length
      .rw[if_pos hh,if_pos hh];exact hcr _ RS
      .rw[if_neg hh,if_neg hh];exact hr.2 i hi
     obtain⟨vs',g1,g2,g3⟩:=Lc hp ps ps' _ _ _ hpp hrl h;refine⟨vs',?_,g2,by rw[g3,hsz]⟩;unfold Instr.fill;simp only[hp _ _ hpl];have hcond:¬((decide (c.cells.size≠size)||decide (off+c.cells.size>vs.size))=true):=(by have:=hr.1;simp;omega);rw[if_neg hcond];exact g1
    .simp at h
 | [],_::_,_,_,_,h,_,_=>h.elim|_::_,[],_,_,_,h,_,_=>h.elim
theorem Qn {fr:Fr}{a:Act}(h:bG E B0 Z K w)(hf:l6 K Z.top w fr a.tmps):∀(l:List (Nat×Operand)),GH K Z.top w (l.map fun (i,x)=>(i,fr.ev E x)) (l.map fun (i,x)=>(i,a.eval x))
 | []=>trivial| (_,x)::l=>⟨rfl,Al h hf x,Qn h hf l⟩
theorem run_places:∀(l:List Field),l.all (fun f=>(dF E.P f.type).isSome)=true->(l.mapM (fun f=>do pure (f.offset,<-Go.sizeOf f.type):Field->Sem (Nat×Nat))).run E.P w= .ok (l.map fun f=>(f.offset,(dF E.P f.type).getD 0)) w
 | [],_=>rfl|f::l,h=>by simp only[List.all_cons,aZ] at h;obtain⟨n,hn⟩:=Option.isSome_iff_exists.1 h.1;have ih:=run_places l h.2;simp only[iG,Sem.run_bind,lI w hn,Result.andThen_ok,Sem.run_pure,ih,hn,iA,Option.getD_some]
theorem amD {t:TypeId}{pl:Nat->Option (Nat×Nat)}{z:V}{parts:List (Nat×V)}{parts':Array (Nat×Value)}{cs:List V}(hpl:Gq E t=some pl)(hz:iM E.P t=some z)(hp:GH K T w parts parts'.toList)(hraw:fC z=true)(h:rY pl z.cells parts=some cs):∃c,(Instr.build t parts').run E.P w= .ok c w/\Rel K T w (.agg cs) c:=by
 obtain⟨cz,hz1,hz2⟩:=BR w hz;have hrz:La K T w z.cells cz.cells:=BQ (hz2 K T) hraw;unfold Gq at hpl;split at hpl
 .rename_i fs hu;split at hpl
  .rename_i hall;simp only[iE] at hpl;subst hpl;obtain⟨vs',g1,g2,_⟩:=Lc (K:=K) (T:=T) (w:=w) (place':=fun i=>(fs.map fun f=>(f.offset,(dF E.P f.type).getD 0))[i]?) (fun i x hx=>by simp only[iR,aW] at hx;obtain⟨f,hf,n,hn,rfl⟩:=hx;simp[hf,hn]) parts parts'.toList _ _ _ hp hrz h;refine⟨.agg vs',?_,.agg _ _ g2.1 g2.2⟩;have hm:(fs.mapM (fun f=>do pure (f.offset,<-Go.sizeOf f.type):Field->Sem (Nat×Nat))).run E.P w= .ok (fs.map fun f=>(f.offset,(dF E.P f.type).getD 0)) w:=by rw[Array.mapM_eq_mapM_toList,Sem.run_map,run_places fs.toList hall];simp only[Result.andThen_ok];congr 1;apply Array.ext';simp
   simp only[Instr.build,Sem.run_bind,hz1,Result.andThen_ok,run_underlying hu];rw[hm];simp only[Result.andThen_ok];rw[g1];rfl
  .simp at hpl
 .rename_i n e hu;simp only[aW] at hpl;obtain⟨sz,hsz,rfl⟩:=hpl;obtain⟨vs',g1,g2,_⟩:=Lc (K:=K) (T:=T) (w:=w) (place':=fun i=>some (i*sz,sz)) (fun i x hx=>hx) parts parts'.toList _ _ _ hp hrz h;refine⟨.agg vs',?_,.agg _ _ g2.1 g2.2⟩;simp only[Instr.build,Sem.run_bind,hz1,Result.andThen_ok,run_underlying hu,lI w hsz];rw[g1];rfl
 .simp at hpl
theorem Vk (z:List V)(sz:Nat)(hz:z.length=sz)(h0:0<sz):∀(n i:Nat),i<n*sz->(List.replicate n z).flatten.getD i aJ=z.getD (i% sz) aJ
 |0,i,h=>wz|n+1,i,h=>by
  simp only[List.replicate_succ,List.flatten_cons];by_cases hi:i<sz
  .rw[rA RS,Ee hi]
  .have hs:(n+1)*sz=n*sz+sz:=qX n sz;rw[rC RS,hz,Vk z sz hz h0 n (i-sz) RS];congr 1;exact(Nat.mod_eq_sub_mod RS).symm
theorem Vl {z:V}{cz:Value}{sz:Nat}(hz:Rel K T w z cz)(hraw:fC z=true)(hsz:z.cells.length=sz)(n:Nat):
 La K T w (List.replicate n z.cells).flatten ((Array.range (n*sz)).map fun i=>cz.cells[i% cz.cells.size]!):=by
 obtain⟨h1,h2⟩:=BQ hz hraw;refine⟨by simp[hsz],fun i hi=>?_⟩;have hi':i<n*sz:=by simpa [hsz] using hi
 have h0:0<sz:=by
  rcases Nat.eq_zero_or_pos sz with h|h
  .subst h;simp at hi'
  .exact h
 rw[Vk z.cells sz hsz h0 n i hi'];have hm:i% sz<cz.cells.size:=by rw[<-h1,hsz];exact Nat.mod_lt _ h0
 have he:((Array.range (n*sz)).map fun i=>cz.cells[i% cz.cells.size]!).getD i undef=cz.cells.getD (i% sz) undef:=by
  have:cz.cells.size=sz:=RS
  simp[Array.getD,hi',this,getElem!_pos,Nat.mod_lt _ h0]
 rw[he];exact h2 _ RS
theorem Qo (v:V):(er v).cells.length=v.cells.length:=by
 cases v<;>simp[er,V.cells]
theorem GI {v:V}{c:Value}(h:Rel K T w v c):Rel K T w (gu v) c:=by
 cases h with
 |gD c a ha hc=>exact .gD .sh a (fun h=>bU) trivial
 |ak c l b o n cap val h1 h2 h3 h4 h5=>exact .ak .sh l b o n cap val h1 h2 h3 h4 trivial|_=>first|exact .int _ _|exact .bool _|exact .str _ _ (by assumption)|exact .gU|exact .gH|exact .gP|exact .iH| (constructor<;>assumption)
theorem Vm {v:V}{c:Value}(h:Rel K T w v c):Rel K T w (er v) c:=by
 cases h with
 |agg cs vs hl h=>
  refine .agg _ vs xH (fun i hi=>?_);have hi':i<cs.length:=jH
  have:(cs.map gu).getD i aJ=gu (cs.getD i aJ):=KN
  rw[this];exact GI (h i hi')
 |gD c a ha hc=>exact .gD .sh a (fun h=>bU) trivial
 |ak c l b o n cap val h1 h2 h3 h4 h5=>exact .ak .sh l b o n cap val h1 h2 h3 h4 trivial|_=>first|exact .int _ _|exact .bool _|exact .str _ _ (by assumption)|exact .gU|exact .gH|exact .gP|exact .iH| (constructor<;>assumption)
theorem Vn {v:V}{j:Nat}{c:Value}(hj:j<v.cells.length)(h:Rel K T w (v.cells.getD j aJ) c):Rel K T w ((er v).cells.getD j aJ) c:=by
 cases v with
 |agg cs=>
  have:((er (.agg cs)).cells).getD j aJ=gu (cs.getD j aJ):=by have hj':j<cs.length:=hj;simp[er,V.cells,List.getD,hj']
  rw[this];exact GI h
 |ak c l=>
  have hj0:j=0:=by simp[V.cells] at hj;exact hj
  subst hj0;exact GI h
 |_=>exact h
theorem amE {v:V}(h:fC v=true):fC (er v)=true:=by cases v<;>first|exact h|rfl
theorem amF {c:Cap}{l:List V}{x:Value}(h:Rel K T w (.ak c l) x):Rel K T w (.ak c (l.map er)) x:=by
 cases h with
 |gD _ a ha hc=>exact .gD c a ha hc|ak _ _ b o n cap val hle hn hcell hrel hc=>
  have hg:∀i,i<l.length->(l.map er).getD i aJ=er (l.getD i aJ):=fun i hi=>by simp[List.getD,hi]
  have key:Rel K T w (.ak c (l.map er)) (.slice (some (at_ b o)) (l.map er).length cap):=by
   refine .ak c _ b o n cap val (by simpa using hle) (fun i hi=>?_) (fun i j hi hj=>hcell i j jH hj) (fun i j hi hj=>?_) (by simpa using hc)
   .rw[hg i jH,Qo];exact hn i jH
   .rw[hg i jH];exact Vn (by rw[hn i jH];exact hj) (hrel i j jH hj)
  simpa using key
theorem amG (h:bG E B0 Z K w)(hB:B0<=w.heap.size){t:TypeId}{len:Nat}{parts:List (Nat×V)}{parts':Array (Nat×Value)}{v:V}(hp:GH K Z.top w parts parts'.toList)(hv:BN E t len parts=some v):Done E B0 new Z K w (Instr.buildSlice t len parts') v Z:=by
 simp only[BN,iR] at hv;obtain⟨e,he,sz,hsz,ag,hag,z,hz,hv⟩:=hv;split at hv
 .rename_i hc;obtain⟨c1,c2,c3,c4⟩:=hc;simp only[iR] at hv;obtain⟨cs,hcs,hv⟩:=hv;split at hv
  .rename_i hone;simp only[iE] at hv;subst hv;obtain⟨cz,hz1,hz2⟩:=BR w hz;have hraw:fC z=true:=K7 hz;have hrz:=Vl (hz2 K Z.top) hraw c2 len;obtain⟨vs',g1,g2,g3⟩:=Lc (K:=K) (T:=Z.top) (w:=w) (place':=fun i=>some (i*sz,sz)) (fun i x hx=>by
    split at hx
    .exact hx
    .simp at hx) parts parts'.toList _ _ _ hp hrz hcs
   have hlen:cs.length=len*sz:=by rw[g2.1,g3];simp
   have hu:=K8 he;have hrun:(Instr.buildSlice t len parts').run E.P w= .ok (.slice (some ⟨w.heap.size,0,none⟩) len len) (w.alloc (.cells vs' e)):=by
    have hn:¬2^24<len*sz:=RS;by_cases h0:len*sz=0
    .have hl0:len=0:=by
      rcases Nat.mul_eq_zero.1 h0 with h|h
      .exact h
      .omega
     subst hl0;simp only[Instr.buildSlice,Sem.run_bind,run_underlying hu,Result.andThen_ok,lI w hsz,Nat.zero_mul];have g1':Instr.fill (fun i=>some (i*sz,sz)) #[] parts'.toList=some vs':=(by have e0:((Array.range (0*sz)).map fun i=>cz.cells[i% cz.cells.size]!)= #[]:=PW;rw[<-e0];exact g1);have e1:∀f:Nat->Value,(Array.range 0).map f= #[]:=fun f=>PW
     simp only[if_true,e1,g1'];simp[newRow]
    .simp only[Instr.buildSlice,Sem.run_bind,run_underlying hu,Result.andThen_ok,lI w hsz,hn,gt_iff_lt,if_false,h0,hz1,Sem.run_pure];rw[g1];simp[newRow]
   have hst:=Step.adO (new:=new) h hB vs' e (0,0);refine⟨_,_,_,hrun,amF ?_,hst⟩;have hext:=hst.ext;refine Gy (cap:=len) (w:=w.alloc (.cells vs' e)) (fun j=>vs'.getD j undef) (fun hf=>?_) RS (fun _=>hone) (fun j hj=>⟨?_,?_⟩) (fun j hj=>(g2.2 j RS).ext hext) (mF _) (by simp[tL])
   .subst hf;simpa using c4
   .have:=K6 (w:=w) (vals:=vs') (t:=e) (fz:=(0,0)) (i:=j) (by have:=g2.1;omega);simpa using this
   .right;exact⟨rfl,by have:=g2.1;omega⟩
  .simp at hv
 .simp at hv
end
end aR
end
