import Derived.Laws.BytesArg
import Derived.Laws.MakeOwn
import Derived.Laws.StructEq
import Derived.Lib.ConvBytes
import Derived.Test.YtdcnajadcbedkaaGreatDoorF1000
set_option linter.all false
section
namespace aQ
open Go Go.RowKit
theorem apt {a b:ByteArray}:(a.data.toList==b.data.toList)=(a==b):=by rw[beq_toListBytes,ByteArray.toList_eq,ByteArray.toList_eq]
section eq
variable {P:Program}{K:bA}{T:Nat->Nat}(w:World)
def LJ (d:Nat)(e:TypeId)(n:Nat)(xs ys:Array Value):List Nat->Sem Bool
 | []=>pure true|i::is=>do
  let a<-part e xs (i*n)
  let b<-part e ys (i*n)
  let r<-Go.Op.equalIn d e a b
  if (!r)=true then pure false else LJ d e n xs ys is
theorem run_equalIn_array (d:Nat)(t e:TypeId)(len n:Nat)(xs ys:Array Value)(ht:P.underlying t=some (.array len e))(hn:dM P e=some n):(Go.Op.equalIn (d+1) t (.agg xs) (.agg ys)).run P w=(LJ d e n xs ys (List.range len)).run P w:=by
 simp only[Go.Op.equalIn,Sem.run_bind,run_underlying ht,Result.andThen_ok,mo w hn];rw[Std.Legacy.Range.forIn_eq_forIn_range'];simp only[Std.Legacy.Range.size,Nat.sub_zero,Nat.add_sub_cancel,Nat.div_one,<-List.range_eq_range'];generalize List.range len=is;clear ht;induction is generalizing w with
 |nil=>simp[LJ]|cons i is ih=>
  simp only[List.forIn_cons,LJ,Sem.run_bind,Sem.run_ite];generalize (part e xs (i*n)).run P w=r1;cases r1 with
  |ok a w1=>
   simp only[Result.andThen_ok];generalize (part e ys (i*n)).run P w1=r2;cases r2 with
   |ok b w2=>
    simp only[Result.andThen_ok];generalize (Go.Op.equalIn d e a b).run P w2=r3;cases r3 with
    |ok r w3=>
     cases r
     .simp only[Result.andThen_ok,Bool.not_false,if_true,Sem.run_pure]
     .simp only[Result.andThen_ok,Bool.not_true,dG,if_false,Sem.run_pure];exact ih w3
    |halt x w3=>simp[Result.andThen]
   |halt x w2=>simp[Result.andThen]
  |halt x w1=>simp[Result.andThen]
theorem VU:∀(d n:Nat),d<=n->∀(t:TypeId)(x y:V)(cx cy:Value)(r:Bool),Rel K T w x cx->Rel K T w y cy->BZ P d t x y=some r->(Go.Op.equalIn n t cx cy).run P w= .ok r w
 |0,_,_,_,_,_,_,_,_,_,_,h=>by simp[BZ] at h|d+1,0,hd,_,_,_,_,_,_,_,_,_=>RS|d+1,n+1,hd,t,x,y,cx,cy,r,hx,hy,h=>by
  have ih:=VU d n RS;unfold BZ at h;split at h
  .rename_i a b hu;cases hx;cases hy;simp only[iE] at h;subst h;simp[Go.Op.equalIn,run_underlying hu]
  .rename_i kk k a k' b hu;cases hx;cases hy;split at h
   .rename_i hk;subst hk;simp only[iE] at h;subst h;simp[Go.Op.equalIn,run_underlying hu]
   .simp at h
  .rename_i a b hu;cases hx with|str _ ba ha=>cases hy with|str _ bb hb=>
   simp only[iE] at h;subst h;subst ha;subst hb;simp only[Go.Op.equalIn,Sem.run_bind,run_underlying hu,Result.andThen_ok,Sem.run_pure,apt]
  .rename_i fs xs ys hu;split at h
   .simp at h
   .rename_i hsi;cases hx with|agg _ vx hlx hrx=>cases hy with|agg _ vy VW VX=>
    have hf:P.fieldsOf t=fs:=(by simp[Program.fieldsOf,hu]);rw[run_equalIn_struct w n t vx vy (by rw[hf];exact hu) (by simpa using hsi),hf];generalize fs.toList=l at h⊢;clear hf hu;induction l generalizing r with
    |nil=>simp only[Ez,iE] at h;subst h;rfl|cons f l ihl=>
     simp only[Ez] at h;simp only[Op.eqFields];split at h
     .rename_i hn;simp only[hn,ne_eq,not_true_eq_false,if_false];exact ihl r h
     .rename_i hn;simp only[iP,aY] at h;obtain⟨a,ha,b,hb,q,hq,r',hr',rfl⟩:=h;obtain⟨ca,ra,VY⟩:=GX hlx hrx ha;obtain⟨cb,rb,VZ⟩:=GX VW VX hb;simp only[hn,ne_eq,not_false_eq_true,if_true,Sem.run_bind,ra,rb,Result.andThen_ok,ih f.type a b ca cb q VY VZ hq,Sem.run_ite];cases q
      .simp
      .simpa using ihl r' hr'
  .rename_i len e xs ys hu;simp only[iP] at h;obtain⟨sz,hsz,h⟩:=h;cases hx with|agg _ vx hlx hrx=>cases hy with|agg _ vy VW VX=>
   rw[run_equalIn_array w n t e len sz vx vy hu hsz];generalize List.range len=l at h⊢;clear hu;induction l generalizing r with
   |nil=>simp only[GK,iE] at h;subst h;rfl|cons i l ihl=>
    simp only[GK] at h;simp only[LJ];simp only[iP,aY] at h;obtain⟨a,ha,b,hb,q,hq,r',hr',rfl⟩:=h;obtain⟨ca,ra,VY⟩:=GX hlx hrx ha;obtain⟨cb,rb,VZ⟩:=GX VW VX hb;simp only[Sem.run_bind,ra,rb,Result.andThen_ok,ih e a b ca cb q VY VZ hq,Sem.run_ite];cases q
    .simp
    .simpa using ihl r' hr'
  .simp at h
theorem apu (op:BinOp)(t:TypeId)(ox oy:Operand){ms}(hu:P.underlying t=some (.interface ms))(hms:ms.isEmpty=true):(eqGuard op t ox oy .nilIface .nilIface).run P w= .ok () w:=by
 have hg0:∀d,(Go.Op.eqGuardIn (d+1) t .nilIface .nilIface).run P w= .ok false w:=fun d=>by simp[Go.Op.eqGuardIn,run_underlying hu,hms]
 have hg:(Go.Op.eqGuardIn Go.Op.maxDepth t .nilIface .nilIface).run P w= .ok false w:=hg0 9999;unfold eqGuard;generalize Go.Op.eqGuardIn Go.Op.maxDepth t .nilIface .nilIface=s at hg⊢;cases op<;>first|rfl| (cases ox<;>cases oy<;>first|rfl|simp[hg])
theorem eq_nil (n:Nat)(t:TypeId){ms}(hu:P.underlying t=some (.interface ms)):(Go.Op.equalIn (n+1) t .nilIface .nilIface).run P w= .ok true w:=oU
theorem apv (n:Nat)(t:TypeId){ms}{u c}(hu:P.underlying t=some (.interface ms)):(Go.Op.equalIn (n+1) t .nilIface (.iface u c)).run P w= .ok false w:=oU
theorem apw (n:Nat)(t:TypeId){ms}{u c}(hu:P.underlying t=some (.interface ms)):(Go.Op.equalIn (n+1) t (.iface u c) .nilIface).run P w= .ok false w:=oU
theorem apx {op:BinOp}(n:Nat)(hn:8<=n+1)(t:TypeId)(x y:V)(cx cy:Value)(r:Bool)(ox oy:Operand)(hx:Rel K T w x cx)(hy:Rel K T w y cy)(h:vk P t x y=some r):(eqGuard op t ox oy cx cy).run P w= .ok () w/\(Go.Op.equalIn (n+1) t cx cy).run P w= .ok r w:=by
 unfold vk at h;split at h
 .rename_i hu;cases hx;cases hy;simp only[iE] at h;subst h;exact⟨oV,oU⟩
 .rename_i hu;cases hx;cases hy<;>(simp only[iE] at h;subst h;exact⟨oV,oU⟩)
 .rename_i hu;cases hy;cases hx<;>(simp only[iE] at h;subst h;exact⟨oV,oU⟩)
 .rename_i hu;cases hx;cases hy;simp only[iE] at h;subst h;exact⟨oV,oU⟩
 .rename_i hu;cases hx;cases hy;simp only[iE] at h;subst h;exact⟨oV,oU⟩
 .rename_i hu;cases hx;cases hy;simp only[iE] at h;subst h;exact⟨oV,oU⟩
 .rename_i hu;cases hx;cases hy;simp only[iE] at h;subst h;exact⟨oV,oU⟩
 .rename_i hu;cases hx;cases hy;simp only[iE] at h;subst h;exact⟨oV,oU⟩
 .rename_i hu;simp only[iE] at h;subst h;cases hx with
  |ak _ _ _ _ _ _ _ _ _ _ _ hc=>exact hc.elim|gq _ a ha _=>cases hy with
   |ak _ _ _ _ _ _ _ _ _ _ _ hc=>exact hc.elim|gq _ a' ha' _=>
    cases ha rfl;cases ha' rfl;exact⟨oV,oU⟩
 .rename_i hu;simp only[iE] at h;subst h;cases hx with
  |ak _ _ _ _ _ _ _ _ _ _ _ hc=>exact hc.elim|gq _ a ha _=>cases ha rfl;cases hy with
   |ak _ _ _ _ _ _ _ _ _ _ _ hc=>exact⟨oV,oU⟩
 .rename_i hu;simp only[iE] at h;subst h;cases hy with
  |ak _ _ _ _ _ _ _ _ _ _ _ hc=>exact hc.elim|gq _ a ha _=>cases ha rfl;cases hx with
   |ak _ _ _ _ _ _ _ _ _ _ _ hc=>exact⟨oV,oU⟩
 .rename_i hu;cases hx;cases hy;simp only[iE] at h;subst h;exact⟨oV,oU⟩
 .rename_i hu;cases hx;cases hy;simp only[iE] at h;subst h;exact⟨oV,oU⟩
 .rename_i hu;cases hx;cases hy;simp only[iE] at h;subst h;exact⟨oV,oU⟩
 .rename_i hu;cases hx;cases hy;simp only[iE] at h;subst h;exact⟨oV,oU⟩
 .rename_i hu;cases hx;cases hy;simp only[iE] at h;subst h;exact⟨oV,oU⟩
 .rename_i hu;split at h
  .simp at h
  .rename_i hg;refine⟨?_,VU w 8 (n+1) hn t _ _ cx cy r hx hy h⟩;cases hx;cases hy;exact run_eqGuard_agg w op t ox oy _ _ (by simpa using hg)
 .rename_i hu;split at h
  .simp at h
  .rename_i hg;refine⟨?_,VU w 8 (n+1) hn t _ _ cx cy r hx hy h⟩;cases hx;cases hy;exact run_eqGuard_agg w op t ox oy _ _ (by simpa using hg)
 .rename_i hu;cases hx;cases hy;simp only[iE] at h;subst h;exact⟨oV,oU⟩
 .rename_i ms hu;split at h
  .rename_i hms;cases hx;cases hy;simp only[iE] at h;subst h;exact⟨apu w op t ox oy hu hms,eq_nil w n t hu⟩
  .cases h
 .rename_i hu;cases hx;cases hy;simp only[iE] at h;subst h;exact⟨oV,apv w n t hu⟩
 .rename_i hu;cases hx;cases hy;simp only[iE] at h;subst h;exact⟨oV,apw w n t hu⟩
 .simp at h
theorem agq {op:BinOp}(t:TypeId)(x y:V)(cx cy:Value)(r:Bool)(ox oy:Operand)(hx:Rel K T w x cx)(hy:Rel K T w y cy)(h:vk P t x y=some r):(eqGuard op t ox oy cx cy).run P w= .ok () w/\(Go.Op.equal t cx cy).run P w= .ok r w:=
 apx w 9999 RS t x y cx cy r ox oy hx hy h
end eq
section
variable {P:Program}{K:bA}{T:Nat->Nat}(w:World)
theorem apy {op:BinOp}{t:TypeId}{k:IntKind}{a b:Int}{v:V}(h:nH op k a b=some v):
 ∃c,(binOp op t (.int k a) (.int k b)).run P w= .ok c w/\Rel K T w v c:=by
 cases op with
 |quo=>
  simp only[nH] at h;split at h
  .simp at h
  .rename_i hb;simp only[iE] at h;subst h;exact⟨_,by simp only[binOp_quo,Op.intDiv,hb,if_false,Sem.run_pure],.int _ _⟩
 |rem=>
  simp only[nH] at h;split at h
  .simp at h
  .rename_i hb;simp only[iE] at h;subst h;exact⟨_,by simp only[binOp_rem,Op.intDiv,hb,if_false,Sem.run_pure],.int _ _⟩
 |shl=>simp[nH] at h|shr=>simp[nH] at h|add=>simp only[nH,iE] at h;subst h;exact⟨_,by simp only[binOp_add,Op.intArith,Sem.run_pure],.int _ _⟩|sub=>simp only[nH,iE] at h;subst h;exact⟨_,by simp only[binOp_sub,Op.intArith,Sem.run_pure],.int _ _⟩|mul=>simp only[nH,iE] at h;subst h;exact⟨_,by simp only[binOp_mul,Op.intArith,Sem.run_pure],.int _ _⟩|and=>simp only[nH,iE] at h;subst h;exact⟨_,by simp only[binOp_and,Op.intBits,Sem.run_pure],.int _ _⟩
 |or=>simp only[nH,iE] at h;subst h;exact⟨_,by simp only[binOp_or,Op.intBits,Sem.run_pure],.int _ _⟩|xor=>simp only[nH,iE] at h;subst h;exact⟨_,by simp only[binOp_xor,Op.intBits,Sem.run_pure],.int _ _⟩|andNot=>simp only[nH,iE] at h;subst h;exact⟨_,by simp only[binOp_andNot,Op.intBits,Sem.run_pure],.int _ _⟩|eql=>simp only[nH,iE] at h;subst h;exact⟨_,by simp only[binOp_eql,Sem.run_pure],.bool _⟩|neq=>simp only[nH,iE] at h;subst h;exact⟨_,by simp only[binOp_neq,Sem.run_pure],.bool _⟩
 |lss=>simp only[nH,iE] at h;subst h;exact⟨_,by simp only[binOp_lss,Sem.run_pure],.bool _⟩|leq=>simp only[nH,iE] at h;subst h;exact⟨_,by simp only[binOp_leq,Sem.run_pure],.bool _⟩|gtr=>simp only[nH,iE] at h;subst h;exact⟨_,by simp only[binOp_gtr,Sem.run_pure],.bool _⟩|geq=>simp only[nH,iE] at h;subst h;exact⟨_,by simp only[binOp_geq,Sem.run_pure],.bool _⟩
theorem apz {op:BinOp}{t:TypeId}{x y:List UInt8}{a b:ByteArray}{v:V}(ha:a.data.toList=x)(hb:b.data.toList=y)(h:Ca op x y=some v):
 ∃c,(binOp op t (.string a) (.string b)).run P w= .ok c w/\Rel K T w v c:=by
 have e:binOp op t (.string a) (.string b)=Op.stringOp op a b:=oV
 rw[e];subst ha;subst hb;cases op with
 |add=>
  simp only[Ca] at h;split at h
  .simp at h
  .rename_i hn;simp only[iE] at h;subst h;have hn':¬((a.size+b.size:Nat):Int)>IntKind.i64.max:=by simpa using hn
   exact⟨.string (a++b),by simp only[Op.stringOp,hn',if_false,Sem.run_pure],.str _ _ aD⟩
 |_=>first
  | (simp only[Ca,iE] at h;subst h;refine⟨_,?_,.bool _⟩;simp only[Op.stringOp,Sem.run_pure,ByteArray.toList_eq])
  |simp[Ca] at h
def apA:V->Prop
 |.int _ _|.str _|.raw _|.bV _=>False|_=>True
theorem agr {t:TypeId}{x y:V}{r:Bool}(h:vk P t x y=some r):apA x:=by unfold vk at h;split at h<;>first|exact trivial|simp at h
theorem apB {op:BinOp}{t:TypeId}{x y v:V}{cx cy:Value}(ox oy:Operand)(hx:Rel K T w x cx)(hy:Rel K T w y cy)(h:sN P op t x y=some v):
 ∃c,(do eqGuard op t ox oy cx cy;binOp op t cx cy:Sem Value).run P w= .ok c w/\Rel K T w v c:=by
 unfold sN at h;split at h
 .cases hx;cases hy;rename_i k a k' b;unfold Lu at h;split at h
  .simp at h
  .rename_i hb;simp only[iE] at h;subst h;refine⟨.int k (k.wrap (a*2^min b.toNat k.bits)),?_,.int _ _⟩;rw[eqGuard_shl];simp[binOp_shl,Op.shift,hb]
 .cases hx;cases hy;rename_i k a k' b;unfold Lu at h;split at h
  .simp at h
  .rename_i hb;simp only[iE] at h;subst h;refine⟨.int k (a.fdiv (2^min b.toNat k.bits)),?_,.int _ _⟩;rw[eqGuard_shr];simp[binOp_shr,Op.shift,hb]
 .cases hx;cases hy;split at h
  .rename_i hk;subst hk;rw[eqGuard_at_int];simp only[pure_bind];exact apy w h
  .simp at h
 .cases hx with|str _ a ha=>cases hy with|str _ b hb=>
  rw[eqGuard_at_string];simp only[pure_bind];exact apz w ha hb h
 .simp only[aY] at h;obtain⟨r,hr,rfl⟩:=h;obtain⟨g1,g2⟩:=agq (op:=.eql) w t x y cx cy r ox oy hx hy hr;refine⟨.bool r,?_,.bool r⟩;have e:binOp .eql t cx cy=(Op.equal t cx cy>>=fun b=>pure (Value.bool b)):=by have hk:=agr hr;cases hx<;>first|exact hk.elim|rfl| (cases hy<;>rfl)
  rw[e];simp[g1,g2]
 .simp only[aY] at h;obtain⟨r,hr,rfl⟩:=h;obtain⟨g1,g2⟩:=agq (op:=.neq) w t x y cx cy r ox oy hx hy hr;refine⟨.bool !r,?_,.bool _⟩;have e:binOp .neq t cx cy=(Op.equal t cx cy>>=fun b=>pure (Value.bool !b)):=by have hk:=agr hr;cases hx<;>first|exact hk.elim|rfl| (cases hy<;>rfl)
  rw[e];simp[g1,g2]
 .simp at h
end
def LK (K:bA)(T:Nat->Nat)(w:World)(cs:List V)(vs:Array Value):Prop:=
 cs.length=vs.size/\∀i,i<cs.length->Rel K T w (cs.getD i aP) (vs.getD i undef)
theorem uh {U:Type}(l:List U)(n i:Nat)(d:U):(l.drop n).getD i d=l.getD (n+i) d:=by simp[List.getD,List.getElem?_drop]
theorem rR {U:Type}(l:List U){n i:Nat}(h:i<n)(d:U):(l.take n).getD i d=l.getD i d:=by simp[List.getD,h]
section
variable {P:Program}{K:bA}{T:Nat->Nat}(w:World)
theorem apC {op:UnOp}{x v:V}{cx:Value}(hx:Rel K T w x cx)(h:EA op x=some v):∃c,(Op.unary op cx).run P w= .ok c w/\Rel K T w v c:=by
 unfold EA at h;split at h
 .cases hx;simp only[iE] at h;subst h;exact⟨_,rfl,.int _ _⟩
 .cases hx;simp only[nH,iE] at h;subst h;exact⟨_,rfl,.int _ _⟩
 .cases hx;simp only[iE] at h;subst h;exact⟨_,rfl,.bool _⟩
 .simp at h
theorem GY {x:V}{cx:Value}(hx:Rel K T w x cx){y V3 k:Nat}(hy:y<=V3)(code:BoundsCode)(h:bnd x y=some k):(Instr.sliceBound cx V3 code).run P w= .ok k w/\k<=y:=by
 simp only[bnd,iP] at h;obtain⟨i,hi,h⟩:=h;split at h
 .rename_i hb;simp only[iE] at h;subst h;cases x<;>simp[pU] at hi;subst hi;cases hx;rename_i kk q;refine⟨?_,RS⟩;have:0<=q/\q<=(V3:Int):=RS
  simp[Instr.sliceBound,asIntOf,this]
 .simp at h
theorem EI {lo hi mx:Option V}{yu yw wM:Option Value}(V4:Bool){len cap fB l h m:Nat}(hlc:len<=cap)(hcap:cap<=fB)(r1:∀v,lo=some v->∃c,yu=some c/\Rel K T w v c)(n1:lo=none->yu=none)(r2:∀v,hi=some v->∃c,yw=some c/\Rel K T w v c)(n2:hi=none->yw=none)(r3:∀v,mx=some v->∃c,wM=some c/\Rel K T w v c)(n3:mx=none->wM=none)(hb:jE len cap lo hi mx=some (l,h,m)):
 ∃mc,(Instr.sliceBounds V4 len fB yu yw wM).run P w= .ok (l,h,mc) w/\l<=h/\h<=m/\m<=cap/\m<=mc/\mc<=fB/\(mx.isSome->mc=m)/\(mx=none->mc=fB/\m=cap):=by
 simp only[jE,iP] at hb;obtain⟨m',hm,h',hh,l',hl,e⟩:=hb;simp only[iE,mF] at e;obtain⟨rfl,rfl,rfl⟩:=e;cases mx with
 |none=>
  simp only[iE] at hm;subst hm;obtain rfl:=n3 rfl;cases hi with
  |none=>
   simp only[iE] at hh;subst hh;obtain rfl:=n2 rfl;cases lo with
   |none=>simp only[iE] at hl;subst hl;obtain rfl:=n1 rfl;exact⟨fB,by simp[Instr.sliceBounds],RS,RS,RS,RS,RS,aD,aD⟩
   |some vl=>obtain⟨cl,rfl,rl⟩:=r1 vl rfl;obtain⟨g1,g2⟩:=GY (P:=P) w rl (iR _) .sliceB hl;exact⟨fB,by simp[Instr.sliceBounds,g1],RS,RS,RS,RS,RS,aD,aD⟩
  |some vh=>
   obtain⟨ch,rfl,rh⟩:=r2 vh rfl;obtain⟨f1,f2⟩:=GY (P:=P) w rh hcap (if V4 then .sliceAcap else .sliceAlen) hh;cases lo with
   |none=>simp only[iE] at hl;subst hl;obtain rfl:=n1 rfl;exact⟨fB,by simp[Instr.sliceBounds,f1],RS,RS,RS,RS,RS,aD,aD⟩
   |some vl=>obtain⟨cl,rfl,rl⟩:=r1 vl rfl;obtain⟨g1,g2⟩:=GY (P:=P) w rl (iR _) .sliceB hl;exact⟨fB,by simp[Instr.sliceBounds,f1,g1],RS,RS,RS,RS,RS,aD,aD⟩
 |some vm=>
  obtain⟨cm,rfl,rm⟩:=r3 vm rfl;obtain⟨e1,e2⟩:=GY (P:=P) w rm hcap (if V4 then .slice3Acap else .slice3Alen) hm;cases hi with
  |none=>simp at hh|some vh=>
   obtain⟨ch,rfl,rh⟩:=r2 vh rfl;obtain⟨f1,f2⟩:=GY (P:=P) w rh (iR _) .slice3B hh;cases lo with
   |none=>simp only[iE] at hl;subst hl;obtain rfl:=n1 rfl;exact⟨m',by simp[Instr.sliceBounds,e1,f1],RS,RS,RS,RS,RS,aD,aD⟩
   |some vl=>obtain⟨cl,rfl,rl⟩:=r1 vl rfl;obtain⟨g1,g2⟩:=GY (P:=P) w rl (iR _) .slice3C hl;exact⟨m',by simp[Instr.sliceBounds,e1,f1,g1],RS,RS,RS,RS,RS,aD,aD⟩
theorem Rel.sub {c:Cap}{l:List V}{b o n cap:Nat}(val:Nat->Nat->Value)(hn:∀i,i<l.length->(l.getD i aP).cells.length=n)(hcell:∀i j,i<l.length->j<n->w.cell? (at_ b (o+i*n+j))=some (val i j)/\K.I b (o+i*n+j))(hrel:∀i j,i<l.length->j<n->Rel K T w ((l.getD i aP).cells.getD j aP) (val i j)){lo hi:Nat}(h1:lo<=hi)(h2:hi<=l.length)(hcap:hi-lo<=cap)(hc:uf K T c n b (o+lo*n) (hi-lo) cap):Rel K T w (.ak c ((l.take hi).drop lo)) (.slice (some (at_ b (o+lo*n))) (hi-lo) cap):=by
 have hlen:((l.take hi).drop lo).length=hi-lo:=dw
 have hget:∀i,i<hi-lo->((l.take hi).drop lo).getD i aP=l.getD (lo+i) aP:=fun i hi'=>by rw[uh,rR _ RS]
 have key:Rel K T w (.ak c ((l.take hi).drop lo)) (.slice (some (at_ b (o+lo*n))) ((l.take hi).drop lo).length cap):=by
  refine .ak c _ b (o+lo*n) n cap (fun i j=>val (lo+i) j) RS (fun i hi'=>?_) (fun i j hi' hj=>?_) (fun i j hi' hj=>?_) (by rw[hlen];exact hc)
  .rw[hget i RS];exact hn _ RS
  .have:=hcell (lo+i) j RS hj
   rwa[show o+(lo+i)*n+j=o+lo*n+i*n+j by rw[qK];omega] at this
  .rw[hget i RS];exact hrel _ j RS hj
 rwa[hlen] at key
theorem V5 {sz n:Nat}{l:List V}(h:oK sz l=true)(hn:∀i,i<l.length->(l.getD i aP).cells.length=n)(hl:0<l.length):n=sz:=by
 cases l with
 |nil=>simp at hl|cons v l=>have:=hn 0 aD;simp only[oK,beq_iff_eq] at h;simpa [h] using this.symm
theorem vB (ag:Bool)(n:Nat):∀(k:Nat)(cs:List V),(chunks ag n k cs).length=k
 |0,_=>rfl|k+1,cs=>by simp[chunks,vB ag n k]
theorem V6 (ag:Bool)(n:Nat):∀(k:Nat)(cs:List V)(i:Nat),i<k->(chunks ag n k cs).getD i aP=if ag then V.agg ((cs.drop (i*n)).take n) else (cs.drop (i*n)).headD aP
 |k+1,cs,0,_=>by simp[chunks,List.getD]|k+1,cs,i+1,h=>by have:=V6 ag n k (cs.drop n) i RS;simp only[chunks,List.getD_cons_succ,this,List.drop_drop];rw[show n+i*n=(i+1)*n by rw[qK];omega]
theorem V7 (ag:Bool){n k:Nat}{cs:List V}(h1:ag=false->n=1)(hl:k*n<=cs.length)(hone:ag=false->dx cs=true){i:Nat}(hi:i<k):((chunks ag n k cs).getD i aP).cells=(cs.drop (i*n)).take n:=by
 have hmul:i*n+n<=k*n:=by have:=oI n (Nat.succ_le_of_lt hi);rw[sI] at this;exact this
 rw[V6 ag n k cs i hi];cases ag with
 |true=>rfl|false=>
  have hn:=h1 rfl;subst hn;have hlt:i<cs.length:=RS
  have hd:cs.drop (i*1)=cs[i]::cs.drop (i+1):=by rw[Nat.mul_one];exact om hlt
  have ho:oneCell cs[i]=true:=by have:=hone rfl;simp only[dx,lK] at this;exact this _ (lM hlt)
  rw[hd];simp only[dG,if_false,List.headD_cons,List.take_succ_cons,List.take_zero];cases hc:cs[i]<;>simp_all[oneCell,V.cells]
theorem GZ {c:Cap}{ag:Bool}{n k b o cap:Nat}{cs:List V}(val:Nat->Value)(h1:ag=false->n=1)(hl:k*n<=cs.length)(hone:ag=false->dx cs=true)(hcell:∀j,j<k*n->w.cell? (at_ b (o+j))=some (val j)/\K.I b (o+j))(hrel:∀j,j<k*n->Rel K T w (cs.getD j aP) (val j))(hcap:k<=cap)(hc:uf K T c n b o k cap):Rel K T w (.ak c (chunks ag n k cs)) (.slice (some (at_ b o)) k cap):=by
 have hmul:∀i j,i<k->j<n->i*n+j<k*n:=fun i j hi hj=>by have:=oI n (Nat.succ_le_of_lt hi);rw[sI] at this;omega
 have hcl:∀i,i<k->((chunks ag n k cs).getD i aP).cells=(cs.drop (i*n)).take n:=fun i hi=>V7 ag h1 hl hone hi;have key:Rel K T w (.ak c (chunks ag n k cs)) (.slice (some (at_ b o)) (chunks ag n k cs).length cap):=by
  refine .ak c _ b o n cap (fun i j=>val (i*n+j)) (by rw[vB];exact hcap) (fun i hi=>?_) (fun i j hi hj=>?_) (fun i j hi hj=>?_) (by rw[vB];exact hc)
  .rw[vB] at hi;rw[hcl i hi];have:=oI n (Nat.succ_le_of_lt hi);rw[sI] at this;simp;omega
  .rw[vB] at hi;have:=hcell (i*n+j) (hmul i j hi hj)
   rwa[<-oZ] at this
  .rw[vB] at hi;rw[hcl i hi,rR _ hj,uh];exact hrel _ (hmul i j hi hj)
 rwa[vB] at key
theorem apD {E:Env}{B0:Nat}{Y:ah}(hT:T=Y.top)(hs:bH E B0 Y K w){t:TypeId}{x v:V}{cx:Value}{lo hi mx:Option V}{yu yw wM:Option Value}(hx:Rel K T w x cx)(r1:∀v,lo=some v->∃c,yu=some c/\Rel K T w v c)(n1:lo=none->yu=none)(r2:∀v,hi=some v->∃c,yw=some c/\Rel K T w v c)(n2:hi=none->yw=none)(r3:∀v,mx=some v->∃c,wM=some c/\Rel K T w v c)(n3:mx=none->wM=none)(h:lF P Y t x lo hi mx=some v):∃c,(Instr.sliceAt t cx yu yw wM).run P w= .ok c w/\Rel K T w v c:=by
 unfold lF at h;split at h
 .rename_i s hu;cases hx with|str _ b hb=>
  split at h
  .simp at h
  .simp only[aY] at h;obtain⟨⟨l,hh,m⟩,hbv,rfl⟩:=h;obtain rfl:=n3 rfl;have hsz:s.length=b.size:=by rw[<-hb];simp
   rw[hsz] at hbv;obtain⟨mc,g1,g2,g3,_⟩:=EI (P:=P) w false (iR _) (iR _) r1 n1 r2 n2 (mx:=none) (wM:=none) (fun v hv=>by simp at hv) (fun _=>rfl) hbv;refine⟨.string (b.extract l hh),by simp[Instr.sliceAt,Instr.slice,run_underlying hu,g1],.str _ _ ?_⟩;rw[<-hb];simp[ByteArray.data_extract,List.drop_take]
 .rename_i e c s hu;simp only[iP] at h;obtain⟨sz,hsz,⟨l,hh,m⟩,hbv,h⟩:=h;split at h
  .rename_i apE;simp only[iE] at h;cases hx with
   |gq _ a ha hc=>
    obtain⟨mc,g1,g2,g3,g4,g5,g6,g7,g8⟩:=EI (P:=P) w true (iR _) (iR _) r1 n1 r2 n2 r3 n3 hbv;simp only[List.length_nil] at g1 g4 g6;obtain rfl:m=0:=RS;obtain rfl:hh=0:=RS;obtain rfl:l=0:=RS;obtain rfl:mc=0:=RS;refine⟨.slice a 0 0,by cases a<;>simp[Instr.sliceAt,Instr.slice,run_underlying hu,mo w hsz,g1],?_⟩;subst h;split
    .exact .gq c a ha hc
    .rename_i hn;cases mx with
     |none=>simp at hn|some vm=>simp;exact .gq _ a (fun h=>cZ) trivial
   |ak _ _ b o n cap val hle hn hcell hrel hc=>
    obtain⟨mc,g1,g2,g3,g4,g5,g6,g7,g8⟩:=EI (P:=P) w true (iR _) hle r1 n1 r2 n2 r3 n3 hbv;have hn':0<l->n=sz:=fun hl=>V5 apE hn RS;have hrun:(Instr.sliceAt t (.slice (some (at_ b o)) s.length cap) yu yw wM).run P w= .ok (.slice (some (at_ b (if mc=l then o else o+l*sz))) (hh-l) (mc-l)) w:=by
     simp only[Instr.sliceAt,Instr.slice,Sem.run_bind,run_underlying hu,mo w hsz,g1,Result.andThen_ok,Sem.run_pure];split
     .simp
     .simp[addr_add]
    refine⟨_,hrun,?_⟩;subst h;split
    .rename_i hw;obtain⟨rfl,rfl,hm⟩:=hw;have hm':mx=none:=(by cases mx<;>simp_all);obtain⟨rfl,_⟩:=g8 hm';have:(if mc=0 then o else o+0*sz)=o:=aD;rw[this];exact .ak c s b o n mc val hle hn hcell hrel hc
    .have hgo:∀c',(∀n' s',c'≠ .own n' s')->uf K T c' n b (o+l*n) (hh-l) (mc-l)->Rel K T w (.ak c' ((s.take hh).drop l)) (.slice (some (at_ b (if mc=l then o else o+l*sz))) (hh-l) (mc-l)):=by
      intro c' hown hc';by_cases hml:mc=l
      .have:hh=l:=RS;subst this;have hnil:(s.take hh).drop hh=[]:=aD;rw[hnil];have key:Rel K T w (.ak c' []) (.slice (some (at_ b (if mc=hh then o else o+hh*sz))) ([]:List V).length (mc-hh)):=by
        refine .ak c' [] b _ n _ (fun _ _=>undef) aD (fun i hi=>absurd hi (gQ i)) (fun i j hi=>absurd hi (gQ i)) (fun i j hi=>absurd hi (gQ i)) ?_;cases c' with
        |sh=>trivial|full=>simpa [uf] using hc'|nil=>exact hc'.elim|own n' s'=>exact absurd rfl (hown n' s')
       simpa using key
      .have e1:(if mc=l then o else o+l*sz)=o+l*n:=by
        rw[if_neg hml];rcases Nat.eq_zero_or_pos l with h0|h0
        .simp[h0]
        .rw[hn' h0]
       rw[e1];exact Rel.sub w val hn hcell hrel g2 RS RS hc'
     cases mx with
     |some vm=>
      have:=g7 rfl;dsimp only;split
      .exact hgo _ (fun _ _=>aD) (by simp only[uf];omega)
      .exact hgo _ (fun _ _=>aD) trivial
     |none=>
      obtain⟨hmc,_⟩:=g8 rfl;dsimp only;cases c with
      |full=>
       dsimp only;split
       .exact hgo _ (fun _ _=>aD) (by simp only[uf] at hc⊢;omega)
       .exact hgo _ (fun _ _=>aD) trivial
      |_=>exact hgo _ (fun _ _=>aD) trivial
  .simp at h
 .rename_i e loc st off len cap bF ag hu;simp only[iP] at h;obtain⟨sz,hsz,⟨l,hh,m⟩,hbv,h⟩:=h;split at h
  .rename_i hse;subst hse;simp only[iE] at h;cases hx with
   |oL _ _ _ _ hA=>obtain⟨mc,g1,g2,g3,g4,g5,g6,g7,g8⟩:=EI (P:=P) w true (iR _) (iR _) r1 n1 r2 n2 r3 n3 hbv;obtain rfl:m=0:=RS;obtain rfl:hh=0:=RS;obtain rfl:l=0:=RS;obtain rfl:mc=0:=RS;refine⟨.slice none 0 0,by simp[Instr.sliceAt,Instr.slice,run_underlying hu,mo w hsz,g1],?_⟩;subst h;simp;exact .oL loc st sz ag hA
   |aS _ _ _ _ _ _ _ fB hA hcc hle hks=>
    obtain⟨mc,g1,g2,g3,g4,g5,g6,g7,g8⟩:=EI (P:=P) w true hle hcc r1 n1 r2 n2 r3 n3 hbv;have hrun:(Instr.sliceAt t (.slice (some (at_ (K.blk st) off)) len fB) yu yw wM).run P w= .ok (.slice (some (at_ (K.blk st) (if mc=l then off else off+l*sz))) (hh-l) (mc-l)) w:=by
     simp only[Instr.sliceAt,Instr.slice,Sem.run_bind,run_underlying hu,mo w hsz,g1,Result.andThen_ok,Sem.run_pure];split
     .simp
     .simp[addr_add]
    refine⟨_,hrun,?_⟩;subst h;split
    .rename_i hw;obtain⟨rfl,h0⟩:=hw;simp only[Nat.sub_self];refine .ak _ [] (K.blk st) _ 0 _ (fun _ _=>undef) aD (fun i hi=>absurd hi (gQ i)) (fun i j hi=>absurd hi (gQ i)) (fun i j hi=>absurd hi (gQ i)) ?_;cases mx with
     |some vm=>
      have:=g7 rfl;dsimp only;split
      .simp only[uf,List.length_nil];omega
      .trivial
     |none=>trivial
    .rename_i hw;have e1:(if mc=l then off else off+l*sz)=off+l*sz:=by
      split
      .have:l=0:=RS;simp[this]
      .rfl
     rw[e1];refine .aS loc st _ _ _ sz ag _ hA RS RS ?_;have:l*sz+(mc-l)*sz<=fB*sz:=(by rw[<-qK];exact oI _ RS);omega
  .simp at h
 .rename_i n e loc st off hu;simp only[iP] at h;obtain⟨sz,hsz,ag,hag,⟨l,hh,m⟩,hbv,cs,hcs,h⟩:=h;split at h
  .rename_i hle;simp only[iE] at h;obtain⟨ho,hA,hks⟩:=hs.wL hcs;cases hx with|ref _ _ _ hA'=>
   obtain⟨mc,g1,g2,g3,g4,g5,g6,g7,g8⟩:=EI (P:=P) w false (iR _) (iR _) r1 n1 r2 n2 r3 n3 hbv;have hrun:(Instr.sliceAt t (.pointer (some (at_ (K.blk st) off))) yu yw wM).run P w= .ok (.slice (some (at_ (K.blk st) (if mc=l then off else off+l*sz))) (hh-l) (mc-l)) w:=by
    simp only[Instr.sliceAt,Sem.run_bind,run_underlying hu,Instr.sureAddr,mo w hsz,g1,Result.andThen_ok,Sem.run_pure];split
    .simp
    .simp[addr_add]
   refine⟨_,hrun,?_⟩;subst h;split
   .rename_i hw;obtain⟨rfl,h0⟩:=hw;simp only[Nat.sub_self];refine .ak _ [] (K.blk st) _ 0 _ (fun _ _=>undef) aD (fun i hi=>absurd hi (gQ i)) (fun i j hi=>absurd hi (gQ i)) (fun i j hi=>absurd hi (gQ i)) ?_;cases mx with
    |some vm=>
     have:=g7 rfl;dsimp only;split
     .simp only[uf,List.length_nil];omega
     .trivial
    |none=>trivial
   .rename_i hw;have e1:(if mc=l then off else off+l*sz)=off+l*sz:=by
     split
     .have:l=0:=RS;simp[this]
     .rfl
    rw[e1];refine .aS loc st _ _ _ sz ag _ hA RS RS ?_;have:l*sz+(mc-l)*sz<=n*sz:=(by rw[<-qK];exact oI _ RS);omega
  .simp at h
 .rename_i n e cs off hu;simp only[iP] at h;obtain⟨sz,hsz,ag,hag,⟨l,hh,m⟩,hbv,h⟩:=h;split at h
  .rename_i hle;obtain⟨hle,hone⟩:=hle;simp only[iE] at h;cases hx with|aW _ _ b o val hcell hrel=>
   obtain⟨mc,g1,g2,g3,g4,g5,g6,g7,g8⟩:=EI (P:=P) w false (iR _) (iR _) r1 n1 r2 n2 r3 n3 hbv;have hrun:(Instr.sliceAt t (.pointer (some (at_ b (o+off)))) yu yw wM).run P w= .ok (.slice (some (at_ b (if mc=l then o+off else o+off+l*sz))) (hh-l) (mc-l)) w:=by
    simp only[Instr.sliceAt,Sem.run_bind,run_underlying hu,Instr.sureAddr,mo w hsz,g1,Result.andThen_ok,Sem.run_pure];split
    .simp
    .simp[addr_add]
   refine⟨_,hrun,?_⟩;subst h;by_cases hml:mc=l
   .have:hh=l:=RS;subst this;simp only[Nat.sub_self,chunks];refine .ak _ [] b _ 0 _ (fun _ _=>undef) aD (fun i hi=>absurd hi (gQ i)) (fun i j hi=>absurd hi (gQ i)) (fun i j hi=>absurd hi (gQ i)) trivial
   .rw[if_neg hml];have hb:l*sz+(hh-l)*sz<=n*sz:=(by rw[<-qK];exact oI _ RS);have e1:o+off+l*sz=o+(off+l*sz):=RS;rw[e1];refine GZ w (fun j=>val (off+l*sz+j)) (fun hf=>(hone hf).1) dw (fun hf=>?_) (fun j hj=>?_) (fun j hj=>?_) RS trivial
    .have:=(hone hf).2;simp only[dx,lK] at this⊢;exact fun x hx=>this x (List.mem_of_mem_drop hx)
    .have:=hcell (off+l*sz+j) RS
     rwa[<-oZ o] at this
    .rw[uh];exact hrel _ RS
  .simp at h
 .simp at h
end
section
variable {E:Env}{B0:Nat}{Y:ah}{K:bA}{w:World}{new:Nat->Prop}
theorem grownCap_ge (w:World)(n old:Nat)(e:TypeId):n<=grownCap w n old e:=by show n<=n+_% _;exact mg _ _
def Done (E:Env)(B0:Nat)(new:Nat->Prop)(Y:ah)(K:bA)(w:World)(s:Sem Value)(v:V)(Y':ah):Prop:=
 ∃c w' K',s.run E.P w= .ok c w'/\Rel K' Y'.top w' v c/\Step E B0 new Y K w Y' K' w'
theorem Done.iw (h:bH E B0 Y K w){s:Sem Value}{v:V}(hs:∃c,s.run E.P w= .ok c w/\Rel K Y.top w v c):Done E B0 new Y K w s v Y:=by obtain⟨c,h1,h2⟩:=hs;exact⟨c,w,K,h1,h2,.refl h⟩
theorem V8 {v:V}{b:UInt8}(h:EB v=some b):∃n,v= .int .u8 n/\b=UInt8.ofNat n.toNat:=by
 unfold EB at h;split at h
 .simp only[iE] at h;exact⟨_,rfl,h.symm⟩
 .simp at h
theorem ags {src dst e:TypeId}(hs:E.P.underlying src=some (.slice e))(he:E.P.underlying e=some (.int .u8))(hd:E.P.underlying dst=some .string){b o cap:Nat}{l:List V}{bs:List UInt8}{T:Nat->Nat}(val:Nat->Value)(hcell:∀i,i<l.length->w.cell? (at_ b (o+i))=some (val i))(hrel:∀i,i<l.length->Rel K T w (l.getD i aP) (val i))(hm:l.mapM EB=some bs):
 ∃c,(convert src dst (.slice (some (at_ b o)) l.length cap)).run E.P w= .ok c w/\Rel K T w (.str bs) c:=by
 obtain⟨h1,h2⟩:=mapM_some hm;have hv:∀i (hi:i<l.length),∃n:Int,val i= .int .u8 n/\bs.getD i 0=UInt8.ofNat n.toNat:=by intro i hi;obtain⟨h3,h4⟩:=h2 i hi;obtain⟨n,e1,e2⟩:=V8 h4;have:=hrel i hi;rw[kK hi,e1] at this;refine⟨n,?_,by rw[kK h3];exact e2⟩;generalize val i=c at this;cases this;rfl
 have hr:=run_convert_bytes_arg (P:=E.P) w src e hs he b o l.length cap ((List.range l.length).map fun i=>intOf (val i)) aD (fun i hi=>by obtain⟨n,e1,_⟩:=hv i hi;rw[hcell i hi,e1];simp[List.getD,hi,e1,intOf]) dst hd;refine⟨_,hr,.str _ _ ?_⟩;rw[strOfNums_data];apply List.ext_getElem
 .simp[h1]
 .intro i hi1 hi2;have hi:i<l.length:=by simpa using hi1
  obtain⟨n,e1,e2⟩:=hv i hi;simp only[BS,BU,e1,intOf];rw[<-e2,kK hi2]
theorem apF (h:bH E B0 Y K w)(hB:B0<=w.heap.size){src dst:TypeId}{x v:V}{cx:Value}(hx:Rel K Y.top w x cx)(hv:Ar E.P Y src dst x=some v):
 Done E B0 new Y K w (convert src dst cx) v Y:=by
 unfold Ar at hv;split at hv
 .rename_i d k kk n hs hd;cases hx;simp only[iE] at hv;subst hv;exact Done.iw h ⟨_,by simp[convert,run_underlying hs,run_underlying hd,Conv.intToInt],.int _ _⟩
 .rename_i d s hs hd;cases hx with|str _ b hb=>
  simp only[iE] at hv;subst hv;exact Done.iw h ⟨.string b,by cases d<;>simp[convert,run_underlying hs,run_underlying hd],.str _ _ hb⟩
 .rename_i e c l hs hd;split at hv
  .rename_i he;simp only[aY] at hv;obtain⟨bs,hbs,rfl⟩:=hv;cases hx with
   |gq _ a ha hc=>
    simp at hbs;subst hbs;cases a with
    |none=>exact Done.iw h ⟨.string ByteArray.empty,run_convert_bytes_nil w src e hs he 0 0 dst hd,.str _ _ rfl⟩|some a=>have hl:(loadCells a 0).run E.P w= .ok #[] w:=(by simpa using run_loadCells_list (P:=E.P) w a [] (fun j v hj=>by simp at hj));refine Done.iw h ⟨.string ByteArray.empty,?_,.str _ _ rfl⟩;rw[run_convert_bytes_string w src dst e _ 0 0 hs he hd];simp[Conv.bytesToString,hl]
   |ak _ _ b o n cap val hle hn hcell hrel hc=>
    obtain⟨h1,h2⟩:=mapM_some hbs;have hn1:∀i,i<l.length->n=1:=fun i hi=>by obtain⟨_,h4⟩:=h2 i hi;obtain⟨q,e1,_⟩:=V8 h4;have:=hn i hi;rw[kK hi,e1] at this;exact this.symm
    refine Done.iw h (ags hs he hd (fun i=>val i 0) (fun i hi=>?_) (fun i hi=>?_) hbs)
    .have:=(hcell i 0 hi (by rw[hn1 i hi];omega)).1;rw[hn1 i hi] at this;simpa using this
    .have:=hrel i 0 hi (by rw[hn1 i hi];omega);obtain⟨_,h4⟩:=h2 i hi;obtain⟨q,e1,_⟩:=V8 h4;rw[kK hi,e1] at this⊢;exact this
  .simp at hv
 .rename_i e loc s off len cap bF ag hs hd;split at hv
  .rename_i he;simp only[iP] at hv;obtain⟨cs,hcs,hv⟩:=hv;split at hv
   .rename_i hle;simp only[aY] at hv;obtain⟨bs,hbs,rfl⟩:=hv;obtain⟨ho,hA,hks⟩:=h.wL hcs;obtain⟨_,nS,_⟩:=h.obj _ _ _ ho;cases hx with
    |oL=>simp at hbs;subst hbs;exact Done.iw h ⟨.string ByteArray.empty,run_convert_bytes_nil w src e hs he 0 0 dst hd,.str _ _ rfl⟩|aS _ _ _ _ _ _ _ fB hA hcc hlc hsz=>
     have hlen:((cs.drop off).take len).length=len:=dw;have key:=ags (w:=w) (K:=K) (T:=Y.top) hs he hd (cap:=fB) (b:=K.blk s) (o:=off) (l:=(cs.drop off).take len) (fun i=>(w.cell? (at_ (K.blk s) (off+i))).getD undef) ?_ ?_ hbs
     .rw[hlen] at key;exact Done.iw h key
     .intro i hi;rw[hlen] at hi;obtain⟨_,vals,t,g1,g2,g3,g4⟩:=nS.2 (by rintro rfl;simp at hle;omega);have:w.cell? (at_ (K.blk s) (off+i))=some (vals.getD (off+i) undef):=(by simp[World.cell?,g1,show off+i<vals.size by omega]);simp[this]
     .intro i hi;rw[hlen] at hi;obtain⟨_,vals,t,g1,g2,g3,g4⟩:=nS.2 (by rintro rfl;simp at hle;omega);have:w.cell? (at_ (K.blk s) (off+i))=some (vals.getD (off+i) undef):=(by simp[World.cell?,g1,show off+i<vals.size by omega]);rw[this,rR _ hi,uh];exact g4 _ RS
   .simp at hv
  .simp at hv
 .simp at hv
end
section
variable {E:Env}{B0:Nat}{Y:ah}{K:bA}{w:World}{new:Nat->Prop}
theorem G5 {T:Nat->Nat}{x:V}{cx:Value}{n k:Nat}(hx:Rel K T w x cx)(h:idx x n=some k):∃kk i,cx= .int kk i/\0<=i/\i<n/\i.toNat=k/\k<n:=by
 simp only[idx,iP] at h;obtain⟨i,hi,h⟩:=h;split at h
 .rename_i hb;simp only[iE] at h;subst h;cases x<;>simp[pU] at hi;subst hi;cases hx;exact⟨_,_,rfl,hb.1,hb.2,rfl,RS⟩
 .simp at h
theorem apG {t:TypeId}{x i v:V}{cx ci:Value}{T:Nat->Nat}(hx:Rel K T w x cx)(hi:Rel K T w i ci)(h:qp E.P t x i=some v):
 ∃c,(Instr.indexAt t cx ci).run E.P w= .ok c w/\Rel K T w v c:=by
 unfold qp at h;split at h
 .rename_i e c l hu;simp only[iP] at h;obtain⟨sz,hsz,k,hk,el,hel,h⟩:=h;split at h
  .rename_i hcl;simp only[iE] at h;subst h;obtain⟨kk,q,rfl,h0,hlt,hq,hkl⟩:=G5 hi hk;cases hx with
   |gq=>simp at hkl|ak _ _ b o n cap val hle hn hcell hrel hc=>
    have agt:l.getD k aP=el:=(by simp[List.getD,hel]);have hn':n=sz:=(by rw[<-hn k hkl,agt,hcl]);subst hn';have hrun:(Instr.indexAt t (.slice (some (at_ b o)) l.length cap) (.int kk q)).run E.P w= .ok (.pointer (some ((at_ b o).add (q.toNat*n)))) w:=(by simp[Instr.indexAt,run_underlying hu,asIntOf,h0,hlt,mo w hsz]);refine⟨_,hrun,?_⟩;rw[addr_add,hq];have:=Rel.aW (K:=K) (T:=T) (w:=w) el.cells 0 b (o+k*n) (fun j=>val k j) (fun j hj=>hcell k j hkl RS) (fun j hj=>by
     have:=hrel k j hkl RS
     rwa[agt] at this)
    simpa using this
  .simp at h
 .rename_i e loc st off len cap bF ag hu;simp only[iP] at h;obtain⟨sz,hsz,k,hk,h⟩:=h;split at h
  .rename_i he;subst he;simp only[iE] at h;subst h;obtain⟨kk,q,rfl,h0,hlt,hq,hkl⟩:=G5 hi hk;cases hx with
   |oL=>omega|aS _ _ _ _ _ _ _ fB hA hcc hle hks=>have hrun:(Instr.indexAt t (.slice (some (at_ (K.blk st) off)) len fB) (.int kk q)).run E.P w= .ok (.pointer (some ((at_ (K.blk st) off).add (q.toNat*sz)))) w:=(by simp[Instr.indexAt,run_underlying hu,asIntOf,h0,hlt,mo w hsz]);refine⟨_,hrun,?_⟩;rw[addr_add,hq];exact .ref _ _ _ hA
  .simp at h
 .rename_i n e loc st off hu;simp only[iP,aY] at h;obtain⟨sz,hsz,k,hk,rfl⟩:=h;obtain⟨kk,q,rfl,h0,hlt,hq,hkl⟩:=G5 hi hk;cases hx with|ref _ _ _ hA=>
  have hrun:(Instr.indexAt t (.pointer (some (at_ (K.blk st) off))) (.int kk q)).run E.P w= .ok (.pointer (some ((at_ (K.blk st) off).add (q.toNat*sz)))) w:=by simp[Instr.indexAt,run_underlying hu,asIntOf,Instr.sureAddr,h0,hlt,mo w hsz]
  refine⟨_,hrun,?_⟩;rw[addr_add,hq];exact .ref _ _ _ hA
 .rename_i n e cs off hu;simp only[iP,aY] at h;obtain⟨sz,hsz,k,hk,rfl⟩:=h;obtain⟨kk,q,rfl,h0,hlt,hq,hkl⟩:=G5 hi hk;cases hx with|aW _ _ b o val hcell hrel=>
  have hrun:(Instr.indexAt t (.pointer (some (at_ b (o+off)))) (.int kk q)).run E.P w= .ok (.pointer (some ((at_ b (o+off)).add (q.toNat*sz)))) w:=by simp[Instr.indexAt,run_underlying hu,asIntOf,Instr.sureAddr,h0,hlt,mo w hsz]
  refine⟨_,hrun,?_⟩;rw[addr_add,hq,oZ];exact .aW _ _ b o val hcell hrel
 .simp at h
theorem apH {t:TypeId}{x i v:V}{cx ci:Value}{T:Nat->Nat}(hx:Rel K T w x cx)(hi:Rel K T w i ci)(h:EC E.P t x i=some v):
 ∃c,(Instr.index t cx ci).run E.P w= .ok c w/\Rel K T w v c:=by
 unfold EC at h;split at h
 .rename_i n e cs hu;simp only[iP] at h;obtain⟨k,hk,sz,hsz,h⟩:=h;obtain⟨kk,q,rfl,h0,hlt,hq,hkl⟩:=G5 hi hk;cases hx with|agg _ vs hl hr=>
  obtain⟨c,hc,hrel⟩:=GX (P:=E.P) hl hr h;exact⟨c,by simp[Instr.index,run_underlying hu,asIntOf,h0,hlt,mo w hsz,hq,hc],hrel⟩
 .rename_i s hu;simp only[iP,aY] at h;obtain⟨k,hk,b,hb,rfl⟩:=h;obtain⟨kk,q,rfl,h0,hlt,hq,hkl⟩:=G5 hi hk;cases hx with|str _ ba hba=>
  have hsz:k<ba.size:=by rw[<-hba] at hkl;simpa using hkl
  have hbk:ba[k]=b:=by subst hba;have:=(uX.1 hb).2;rw[<-this];rfl
  refine⟨.int .u8 b.toNat,?_,.int _ _⟩;have:ba[q.toNat]? =some b:=by rw[hq];simp[hsz,hbk]
  simp[Instr.index,run_underlying hu,asIntOf,h0,this]
 .simp at h
theorem agu {t:TypeId}{f o:Nat}{u:TypeId}{x v:V}{cx:Value}{T:Nat->Nat}(hx:Rel K T w x cx)(hf:x9 E.P t f=some (o,u))(h:(match x with|.ref loc s off=>some (V.ref loc s (off+o))|.aW cs off=>some (.aW cs (off+o))|_=>none)=some v):
 ∃c,(Instr.fieldAt t cx f).run E.P w= .ok c w/\Rel K T w v c:=by
 obtain⟨fs,g,n,hu,hg,ho,hu',hn⟩:=agp hf;subst hu';have hrun:∀b q,(Instr.fieldAt t (.pointer (some (at_ b q))) f).run E.P w= .ok (.pointer (some (at_ b (q+o)))) w:=by intro b q;simp[Instr.fieldAt,run_underlying hu,hg,Instr.sureAddr,fieldPlace,mo w hn,addr_add,ho]
 cases x with
 |ref loc s off=>
  cases hx with|ref _ _ _ hA=>
  simp only[iE] at h;subst h;exact⟨_,hrun _ _,.ref _ _ _ hA⟩
 |aW cs off=>
  cases hx with|aW _ _ b o' val hcell hrel=>
  simp only[iE] at h;subst h;refine⟨_,hrun _ _,?_⟩;rw[oZ];exact .aW _ _ b o' val hcell hrel
 |_=>simp at h
theorem V9 (h:bH E B0 Y K w){t:TypeId}{x v:V}{cx:Value}(hx:Rel K Y.top w x cx)(hv:(match x with|.ref loc s off=>(Y.dQ loc s).bind fun cs=>gT E.P t cs off|.aW cs off=>gT E.P t cs off|_=>none)=some v):
 ∃c,(Instr.loadAt t cx).run E.P w= .ok c w/\Rel K Y.top w v c:=by
 cases x with
 |ref loc s off=>
  simp only[iP] at hv;obtain⟨cs,hcs,hv⟩:=hv;cases hx with|ref _ _ _ hA=>
  obtain⟨ho,_,_⟩:=h.wL hcs;obtain⟨_,nS,_⟩:=h.obj _ _ _ ho;by_cases hne:cs=[]
  .subst hne;obtain⟨c,h1,h2⟩:=VT (P:=E.P) (K:=K) (T:=Y.top) (w:=w) (cs:=[]) (b:=K.blk s) (o:=0) (fun _=>undef) (fun i hi=>absurd hi (gQ i)) (fun i hi=>absurd hi (gQ i)) hv;exact⟨c,by simpa [Instr.loadAt,Instr.sureAddr] using h1,h2⟩
  .obtain⟨_,vals,t',g1,g2,g3,g4⟩:=nS.2 hne;obtain⟨c,h1,h2⟩:=VT (P:=E.P) (K:=K) (T:=Y.top) (w:=w) (b:=K.blk s) (o:=0) (fun i=>vals.getD i undef) (fun i hi=>by have:i<vals.size:=RS;simp[World.cell?,g1,this]) g4 hv;exact⟨c,by simpa [Instr.loadAt,Instr.sureAddr] using h1,h2⟩
 |aW cs off=>
  cases hx with|aW _ _ b o val hcell hrel=>
  obtain⟨c,h1,h2⟩:=VT (P:=E.P) (K:=K) (T:=Y.top) (w:=w) (b:=b) (o:=o) val (fun i hi=>(hcell i hi).1) hrel hv;exact⟨c,by simpa [Instr.loadAt,Instr.sureAddr] using h1,h2⟩
 |_=>simp at hv
theorem uj {U:Type}{l r:List U}{i:Nat}(h:i<l.length)(d:U):(l++r).getD i d=l.getD i d:=by simp[List.getD,List.getElem?_append,h]
theorem um {U:Type}{l r:List U}{i:Nat}(h:l.length<=i)(d:U):(l++r).getD i d=r.getD (i-l.length) d:=by simp[List.getD,List.getElem?_append,Nat.not_lt.2 h]
theorem Wd {cs vs:List V}{off i:Nat}(h:off+vs.length<=cs.length):(gM cs off vs).getD i aP=if off<=i/\i<off+vs.length then vs.getD (i-off) aP else cs.getD i aP:=by
 unfold gM;have hl:(cs.take off).length=off:=dw
 rw[fP];by_cases h1:i<off
 .rw[uj RS,rR _ h1,if_neg RS]
 .rw[um RS,hl];by_cases h2:i-off<vs.length
  .rw[uj h2,if_pos RS]
  .rw[um RS,uh,if_neg RS];congr 1;omega
theorem Ch {cs vs:List V}{off:Nat}(h:off+vs.length<=cs.length):(gM cs off vs).length=cs.length:=by unfold gM;simp;omega
theorem apI (h:bH E B0 Y K w)(hB:B0<=w.heap.size){t:TypeId}{loc:Loc}{s off:Nat}{cs:List V}{x:V}{ca cx:Value}(ha:Rel K Y.top w (.ref loc s off) ca)(hx:Rel K Y.top w x cx)(hcs:Y.dQ loc s=some cs)(hsz:some x.cells.length=dM E.P t)(hle:off+x.cells.length<=cs.length)(hone:dx x.cells=true):
 ∃w',(Instr.storeAt t ca cx).run E.P w= .ok () w'/\Step E B0 new Y K w (Y.setObj loc s (.cells (gM cs off x.cells))) K w':=by
 cases ha with|ref _ _ _ hA=>
 have hraw:fE x=true:=by cases x<;>simp_all[fE,dx,V.cells,oneCell]
 obtain⟨hcl,hcr⟩:=Cg hx hraw;obtain⟨ho,_,_⟩:=h.wL hcs;obtain⟨_,nS,_⟩:=h.obj _ _ _ ho;have hone':∀v∈cx.cells.toList,v.oneCell'=true:=by
  intro v hv;obtain⟨i,hi,rfl⟩:=GH.1 hv;have hi':i<cx.cells.size:=kg
  have:=hcr i RS;rw[GV hi'] at this;have h1:oneCell (x.cells.getD i aP)=true:=by simp only[dx,lK] at hone;rw[kK RS];exact hone _ (lM _)
  simpa using (agk this h1).1
 have apJ:(Instr.storeAt t (.pointer (some (at_ (K.blk s) off))) cx).run E.P w=(storeCells (at_ (K.blk s) off) cx.cells.toList).run E.P w:=by have:cx.cells.size=x.cells.length:=hcl.symm;simp[Instr.storeAt,Instr.sureAddr,storeVar,mo w hsz.symm,this]
 rw[apJ];by_cases hne:cs=[]
 .subst hne;have h0:x.cells=[]:=by cases hx:x.cells with|nil=>rfl|cons a b=>simp[hx] at hle
  have h0':cx.cells.toList=[]:=by
   have:cx.cells.size=0:=by rw[<-hcl,h0];rfl
   simpa using this
  rw[h0',h0];have hoff:off=0:=by simpa [h0] using hle
  have hsp:gM [] off []=([]:List V):=by simp[gM]
  rw[hsp];have e:Y.setObj loc s (.cells [])=Y:=by
   unfold ah.setObj;have:upd Y.obj loc (some (s,kH.cells []))=Y.obj:=by
    funext l;unfold upd;split
    .rename_i hl;rw[hl,ho]
    .rfl
   rw[this]
  rw[e];exact⟨w,rfl,.refl h⟩
 .obtain⟨hb0,vals,t',g1,g2,g3,g4⟩:=nS.2 hne;have hrun:=run_storeCells_at E.P (K.blk s) off t' cx.cells.toList 0 vals w g1 (by simp[<-hcl];omega) hone';refine⟨_,hrun,?_⟩;have hlt:=lt_of_heap g1;have hheap:=setRow_heap w (K.blk s) vals (vals.toList.take (off+0)++cx.cells.toList++vals.toList.drop (off+0+cx.cells.toList.length)).toArray t' (0,0) g1;have hsize:(vals.toList.take (off+0)++cx.cells.toList++vals.toList.drop (off+0+cx.cells.toList.length)).toArray.size=vals.size:=by simp[<-hcl];omega
  have apK:Only (K.blk s) w (w.setRow (K.blk s) (vals.toList.take (off+0)++cx.cells.toList++vals.toList.drop (off+0+cx.cells.toList.length)).toArray):=by refine⟨rfl,rfl,rfl,by simp[World.setRow],fun k hk _=>?_⟩;simp[World.setRow,Array.getElem?_modify,Ne.symm hk]
  refine Step.setCells h hB ho hne g1 apK hheap hsize (by intro h0;have:=Ch hle;rw[h0] at this;exact hne (qo this.symm)) (by rw[Ch hle,hsize];exact g3) (fun e i hi=>?_);rw[Ch hle] at hi;rw[Wd hle];have LM:i<vals.size:=RS
  have hval:(vals.toList.take (off+0)++cx.cells.toList++vals.toList.drop (off+0+cx.cells.toList.length)).toArray.getD i undef=if off<=i/\i<off+cx.cells.size then cx.cells.getD (i-off) undef else vals.getD i undef:=by
   have hl:(vals.toList.take (off+0)).length=off:=dw
   have harr:∀(l:List Value),l.toArray.getD i undef=l.getD i undef:=fun l=>by simp[Array.getD,List.getD];split<;>simp_all
   rw[harr,fP];by_cases h1:i<off
   .rw[uj RS,rR _ RS,if_neg RS];simp[List.getD,Array.getD,LM]
   .rw[um RS,hl];by_cases h2:i-off<cx.cells.size
    .rw[uj uV,if_pos RS];simp[List.getD,Array.getD,h2]
    .rw[um dw,uh,if_neg RS];have:off+0+cx.cells.toList.length+(i-off-cx.cells.toList.length)=i:=dw;rw[this];simp[List.getD,Array.getD,LM]
  rw[hval,<-hcl];by_cases hh:off<=i/\i<off+x.cells.length
  .rw[if_pos hh,if_pos hh];exact(hcr _ RS).ext e
  .rw[if_neg hh,if_neg hh];exact(g4 i hi).ext e
end
section
variable {E:Env}{B0:Nat}{Y:ah}{K:bA}{w:World}{new:Nat->Prop}{T:Nat->Nat}
theorem apL (h:bH E B0 Y K w){t:TypeId}{m k v:V}{cm ck:Value}{ok:Bool}(hm:Rel K Y.top w m cm)(hk:Rel K Y.top w k ck)(hv:ED E.P Y t m k ok=some v):
 ∃c,(Instr.lookup t cm ck ok).run E.P w= .ok c w/\Rel K Y.top w v c:=by
 unfold ED at hv;cases hv
theorem agv (h:bH E B0 Y K w)(hB:B0<=w.heap.size){t:TypeId}{m k v:V}{cm ck cv:Value}{Y':ah}(hm:Rel K Y.top w m cm)(hk:Rel K Y.top w k ck)(hv:Rel K Y.top w v cv)(hu:Au E.P Y t m k v=some Y'):∃w',(Instr.mapUpdate t cm ck cv).run E.P w= .ok () w'/\Step E B0 new Y K w Y' K w'/\Y'.top=Y.top:=by
 unfold Au at hu;cases hu
end
section
variable {E:Env}{B0:Nat}{Y:ah}{K:bA}{w:World}{new:Nat->Prop}{T:Nat->Nat}
theorem agw (off:Nat):∀(l:List (Value×Nat))(cs:Array Value),(l.foldl (fun cs (c,j)=>cs.setIfInBounds (off+j) c) cs).size=cs.size
 | [],_=>rfl|x::l,cs=>by rw[List.foldl_cons,agw off l];simp
theorem agx (off:Nat):∀(vs:List Value)(k:Nat)(cs:Array Value),off+k+vs.length<=cs.size->∀i,i<cs.size->((vs.zipIdx k).foldl (fun cs (c,j)=>cs.setIfInBounds (off+j) c) cs).getD i undef=if off+k<=i/\i<off+k+vs.length then vs.getD (i-(off+k)) undef else cs.getD i undef
 | [],k,cs,_,i,_=>dw|v::vs,k,cs,h,i,hi=>by
  simp only[List.zipIdx_cons,List.foldl_cons];rw[agx off vs (k+1) _ (by simp at h⊢;omega) i kg];have hs:(cs.setIfInBounds (off+k) v).getD i undef=if off+k=i then v else cs.getD i undef:=by simp only[Array.getD,Array.size_setIfInBounds,hi,dif_pos];show (cs.setIfInBounds (off+k) v)[i]'_=_;rw[Array.getElem_setIfInBounds];split<;>rfl
  rw[hs];simp only[List.length_cons] at h⊢;by_cases h1:off+k=i
  .subst h1;rw[if_neg RS,if_pos rfl,if_pos RS];simp
  .by_cases h2:off+(k+1)<=i/\i<off+(k+1)+vs.length
   .rw[if_pos h2,if_pos RS];have:i-(off+k)=(i-(off+(k+1)))+1:=RS;rw[this,List.getD_cons_succ]
   .rw[if_neg h2,if_neg h1,if_neg RS]
theorem QV (a:Array Value)(i:Nat):a.toList.getD i undef=a.getD i undef:=by simp[List.getD,Array.getD];split<;>simp_all
def G6 (K:bA)(T:Nat->Nat)(w:World):List (Nat×V)->List (Nat×Value)->Prop
 | [],[]=>True| (i,v)::a,(j,c)::b=>i=j/\Rel K T w v c/\G6 K T w a b|_,_=>False
theorem LP {place:Nat->Option (Nat×Nat)}{place':Nat->Option (Nat×Nat)}(hp:∀i x,place i=some x->place' i=some x):
 ∀(parts:List (Nat×V))(parts':List (Nat×Value))(cs cs':List V)(vs:Array Value),G6 K T w parts parts'->LK K T w cs vs->sM place cs parts=some cs'->
  ∃vs',Instr.fill place' vs parts'=some vs'/\LK K T w cs' vs'/\vs'.size=vs.size
 | [],[],cs,cs',vs,_,hr,h=>by simp only[sM,iE] at h;subst h;exact⟨vs,rfl,hr,rfl⟩| (i,v)::ps,(j,c)::ps',cs,cs',vs,hpp,hr,h=>by
   obtain⟨rfl,hv,hpp⟩:=hpp;unfold sM at h;cases hpl:place i with
   |none=>simp[hpl] at h|some x=>
    obtain⟨off,size⟩:=x;simp only[hpl] at h;split at h
    .rename_i hc;obtain⟨h1,h2,h3⟩:=hc;obtain⟨hl,hcr⟩:=Cg hv h3;have hsz:(c.cells.zipIdx.foldl (fun cs (c,j)=>cs.setIfInBounds (off+j) c) vs).size=vs.size:=(by rw[<-Array.foldl_toList,Array.toList_zipIdx];exact agw off _ _);have hget:∀i,i<vs.size->(c.cells.zipIdx.foldl (fun cs (c,j)=>cs.setIfInBounds (off+j) c) vs).getD i undef=if off<=i/\i<off+c.cells.size then c.cells.getD (i-off) undef else vs.getD i undef:=by
      intro i hi;rw[<-Array.foldl_toList,Array.toList_zipIdx];have:=agx off c.cells.toList 0 vs (by simp;have:=hr.1;omega) i hi;rw[this];simp only[Nat.add_zero,Array.length_toList];split
      .exact QV _ _
      .rfl
     have hrl:LK K T w (gM cs off v.cells) (c.cells.zipIdx.foldl (fun cs (c,j)=>cs.setIfInBounds (off+j) c) vs):=by
      refine⟨by rw[Ch RS,hsz];exact hr.1,fun i hi=>?_⟩;rw[Ch RS] at hi;rw[Wd RS,hget i (by have:=hr.1;omega),<-hl];by_cases hh:off<=i/\i<off+v.cells.length
      .rw[if_pos hh,if_pos hh];exact hcr _ RS
      .rw[if_neg hh,if_neg hh];exact hr.2 i hi
     obtain⟨vs',g1,g2,g3⟩:=LP hp ps ps' _ _ _ hpp hrl h;refine⟨vs',?_,g2,by rw[g3,hsz]⟩;unfold Instr.fill;simp only[hp _ _ hpl];have hcond:¬((decide (c.cells.size≠size)||decide (off+c.cells.size>vs.size))=true):=(by have:=hr.1;simp;omega);rw[if_neg hcond];exact g1
    .simp at h
 | [],_::_,_,_,_,h,_,_=>h.elim|_::_,[],_,_,_,h,_,_=>h.elim
theorem QW {fr:Fr}{a:Act}(h:bH E B0 Y K w)(hf:mU K Y.top w fr a.tmps):∀(l:List (Nat×Operand)),G6 K Y.top w (l.map fun (i,x)=>(i,fr.ev E x)) (l.map fun (i,x)=>(i,a.eval x))
 | []=>trivial| (_,x)::l=>⟨rfl,Ay h hf x,QW h hf l⟩
theorem run_places:∀(l:List Field),l.all (fun f=>(dM E.P f.type).isSome)=true->(l.mapM (fun f=>do pure (f.offset,<-Go.sizeOf f.type):Field->Sem (Nat×Nat))).run E.P w= .ok (l.map fun f=>(f.offset,(dM E.P f.type).getD 0)) w
 | [],_=>rfl|f::l,h=>by simp only[List.all_cons,aZ] at h;obtain⟨n,hn⟩:=Option.isSome_iff_exists.1 h.1;have ih:=run_places l h.2;simp only[iN,Sem.run_bind,mo w hn,Result.andThen_ok,Sem.run_pure,ih,hn,iH,Option.getD_some]
theorem apM {t:TypeId}{pl:Nat->Option (Nat×Nat)}{z:V}{parts:List (Nat×V)}{parts':Array (Nat×Value)}{cs:List V}(hpl:GN E t=some pl)(hz:jc E.P t=some z)(hp:G6 K T w parts parts'.toList)(hraw:fE z=true)(h:sM pl z.cells parts=some cs):∃c,(Instr.build t parts').run E.P w= .ok c w/\Rel K T w (.agg cs) c:=by
 obtain⟨cz,hz1,hz2⟩:=EH w hz;have hrz:LK K T w z.cells cz.cells:=Cg (hz2 K T) hraw;unfold GN at hpl;split at hpl
 .rename_i fs hu;split at hpl
  .rename_i hall;simp only[iE] at hpl;subst hpl;obtain⟨vs',g1,g2,_⟩:=LP (K:=K) (T:=T) (w:=w) (place':=fun i=>(fs.map fun f=>(f.offset,(dM E.P f.type).getD 0))[i]?) (fun i x hx=>by simp only[iP,aY] at hx;obtain⟨f,hf,n,hn,rfl⟩:=hx;simp[hf,hn]) parts parts'.toList _ _ _ hp hrz h;refine⟨.agg vs',?_,.agg _ _ g2.1 g2.2⟩;have hm:(fs.mapM (fun f=>do pure (f.offset,<-Go.sizeOf f.type):Field->Sem (Nat×Nat))).run E.P w= .ok (fs.map fun f=>(f.offset,(dM E.P f.type).getD 0)) w:=by rw[Array.mapM_eq_mapM_toList,Sem.run_map,run_places fs.toList hall];simp only[Result.andThen_ok];congr 1;apply Array.ext';simp
   simp only[Instr.build,Sem.run_bind,hz1,Result.andThen_ok,run_underlying hu];rw[hm];simp only[Result.andThen_ok];rw[g1];rfl
  .simp at hpl
 .rename_i n e hu;simp only[aY] at hpl;obtain⟨sz,hsz,rfl⟩:=hpl;obtain⟨vs',g1,g2,_⟩:=LP (K:=K) (T:=T) (w:=w) (place':=fun i=>some (i*sz,sz)) (fun i x hx=>hx) parts parts'.toList _ _ _ hp hrz h;refine⟨.agg vs',?_,.agg _ _ g2.1 g2.2⟩;simp only[Instr.build,Sem.run_bind,hz1,Result.andThen_ok,run_underlying hu,mo w hsz];rw[g1];rfl
 .simp at hpl
theorem Wh (z:List V)(sz:Nat)(hz:z.length=sz)(h0:0<sz):∀(n i:Nat),i<n*sz->(List.replicate n z).flatten.getD i aP=z.getD (i% sz) aP
 |0,i,h=>wH|n+1,i,h=>by
  simp only[List.replicate_succ,List.flatten_cons];by_cases hi:i<sz
  .rw[uj RS,El hi]
  .have hs:(n+1)*sz=n*sz+sz:=sI n sz;rw[um RS,hz,Wh z sz hz h0 n (i-sz) RS];congr 1;exact(Nat.mod_eq_sub_mod RS).symm
theorem Wi {z:V}{cz:Value}{sz:Nat}(hz:Rel K T w z cz)(hraw:fE z=true)(hsz:z.cells.length=sz)(n:Nat):
 LK K T w (List.replicate n z.cells).flatten ((Array.range (n*sz)).map fun i=>cz.cells[i% cz.cells.size]!):=by
 obtain⟨h1,h2⟩:=Cg hz hraw;refine⟨by simp[hsz],fun i hi=>?_⟩;have hi':i<n*sz:=by simpa [hsz] using hi
 have h0:0<sz:=by
  rcases Nat.eq_zero_or_pos sz with h|h
  .subst h;simp at hi'
  .exact h
 rw[Wh z.cells sz hsz h0 n i hi'];have hm:i% sz<cz.cells.size:=by rw[<-h1,hsz];exact Nat.mod_lt _ h0
 have he:((Array.range (n*sz)).map fun i=>cz.cells[i% cz.cells.size]!).getD i undef=cz.cells.getD (i% sz) undef:=by
  have:cz.cells.size=sz:=RS
  simp[Array.getD,hi',this,getElem!_pos,Nat.mod_lt _ h0]
 rw[he];exact h2 _ RS
theorem QX (v:V):(er v).cells.length=v.cells.length:=by
 cases v<;>simp[er,V.cells]
theorem G7 {v:V}{c:Value}(h:Rel K T w v c):Rel K T w (gH v) c:=by
 cases h with
 |gq c a ha hc=>exact .gq .sh a (fun h=>cZ) trivial
 |ak c l b o n cap val h1 h2 h3 h4 h5=>exact .ak .sh l b o n cap val h1 h2 h3 h4 trivial|_=>first|exact .int _ _|exact .bool _|exact .str _ _ (by assumption)|exact .gZ|exact .gL|exact .iq|exact .iO| (constructor<;>assumption)
theorem Wj {v:V}{c:Value}(h:Rel K T w v c):Rel K T w (er v) c:=by
 cases h with
 |agg cs vs hl h=>
  refine .agg _ vs BO (fun i hi=>?_);have hi':i<cs.length:=kg
  have:(cs.map gH).getD i aP=gH (cs.getD i aP):=Lg
  rw[this];exact G7 (h i hi')
 |gq c a ha hc=>exact .gq .sh a (fun h=>cZ) trivial
 |ak c l b o n cap val h1 h2 h3 h4 h5=>exact .ak .sh l b o n cap val h1 h2 h3 h4 trivial|_=>first|exact .int _ _|exact .bool _|exact .str _ _ (by assumption)|exact .gZ|exact .gL|exact .iq|exact .iO| (constructor<;>assumption)
theorem Wm {v:V}{j:Nat}{c:Value}(hj:j<v.cells.length)(h:Rel K T w (v.cells.getD j aP) c):Rel K T w ((er v).cells.getD j aP) c:=by
 cases v with
 |agg cs=>
  have:((er (.agg cs)).cells).getD j aP=gH (cs.getD j aP):=by have hj':j<cs.length:=hj;simp[er,V.cells,List.getD,hj']
  rw[this];exact G7 h
 |ak c l=>
  have hj0:j=0:=by simp[V.cells] at hj;exact hj
  subst hj0;exact G7 h
 |_=>exact h
theorem apN {v:V}(h:fE v=true):fE (er v)=true:=by cases v<;>first|exact h|rfl
theorem apO {c:Cap}{l:List V}{x:Value}(h:Rel K T w (.ak c l) x):Rel K T w (.ak c (l.map er)) x:=by
 cases h with
 |gq _ a ha hc=>exact .gq c a ha hc|ak _ _ b o n cap val hle hn hcell hrel hc=>
  have hg:∀i,i<l.length->(l.map er).getD i aP=er (l.getD i aP):=fun i hi=>by simp[List.getD,hi]
  have key:Rel K T w (.ak c (l.map er)) (.slice (some (at_ b o)) (l.map er).length cap):=by
   refine .ak c _ b o n cap val (by simpa using hle) (fun i hi=>?_) (fun i j hi hj=>hcell i j kg hj) (fun i j hi hj=>?_) (by simpa using hc)
   .rw[hg i kg,QX];exact hn i kg
   .rw[hg i kg];exact Wm (by rw[hn i kg];exact hj) (hrel i j kg hj)
  simpa using key
theorem apP (h:bH E B0 Y K w)(hB:B0<=w.heap.size){t:TypeId}{len:Nat}{parts:List (Nat×V)}{parts':Array (Nat×Value)}{v:V}(hp:G6 K Y.top w parts parts'.toList)(hv:Cb E t len parts=some v):Done E B0 new Y K w (Instr.buildSlice t len parts') v Y:=by
 simp only[Cb,iP] at hv;obtain⟨e,he,sz,hsz,ag,hag,z,hz,hv⟩:=hv;split at hv
 .rename_i hc;obtain⟨c1,c2,c3,c4⟩:=hc;simp only[iP] at hv;obtain⟨cs,hcs,hv⟩:=hv;split at hv
  .rename_i hone;simp only[iE] at hv;subst hv;obtain⟨cz,hz1,hz2⟩:=EH w hz;have hraw:fE z=true:=LG hz;have hrz:=Wi (hz2 K Y.top) hraw c2 len;obtain⟨vs',g1,g2,g3⟩:=LP (K:=K) (T:=Y.top) (w:=w) (place':=fun i=>some (i*sz,sz)) (fun i x hx=>by
    split at hx
    .exact hx
    .simp at hx) parts parts'.toList _ _ _ hp hrz hcs
   have hlen:cs.length=len*sz:=by rw[g2.1,g3];simp
   have hu:=LH he;have hrun:(Instr.buildSlice t len parts').run E.P w= .ok (.slice (some ⟨w.heap.size,0,none⟩) len len) (w.alloc (.cells vs' e)):=by
    have hn:¬2^24<len*sz:=RS;by_cases h0:len*sz=0
    .have hl0:len=0:=by
      rcases Nat.mul_eq_zero.1 h0 with h|h
      .exact h
      .omega
     subst hl0;simp only[Instr.buildSlice,Sem.run_bind,run_underlying hu,Result.andThen_ok,mo w hsz,Nat.zero_mul];have g1':Instr.fill (fun i=>some (i*sz,sz)) #[] parts'.toList=some vs':=(by have e0:((Array.range (0*sz)).map fun i=>cz.cells[i% cz.cells.size]!)= #[]:=Qy;rw[<-e0];exact g1);have e1:∀f:Nat->Value,(Array.range 0).map f= #[]:=fun f=>Qy
     simp only[if_true,e1,g1'];simp[newRow]
    .simp only[Instr.buildSlice,Sem.run_bind,run_underlying hu,Result.andThen_ok,mo w hsz,hn,gt_iff_lt,if_false,h0,hz1,Sem.run_pure];rw[g1];simp[newRow]
   have hst:=Step.agh (new:=new) h hB vs' e (0,0);refine⟨_,_,_,hrun,apO ?_,hst⟩;have hext:=hst.ext;refine GZ (cap:=len) (w:=w.alloc (.cells vs' e)) (fun j=>vs'.getD j undef) (fun hf=>?_) RS (fun _=>hone) (fun j hj=>⟨?_,?_⟩) (fun j hj=>(g2.2 j RS).ext hext) (iR _) (by simp[uf])
   .subst hf;simpa using c4
   .have:=LD (w:=w) (vals:=vs') (t:=e) (fz:=(0,0)) (i:=j) (by have:=g2.1;omega);simpa using this
   .right;exact⟨rfl,by have:=g2.1;omega⟩
  .simp at hv
 .simp at hv
end
section
variable {E:Env}{B0:Nat}{Y:ah}{K:bA}{w:World}{new:Nat->Prop}{T:Nat->Nat}
def Src (P:Program)(w:World)(sz n:Nat)(cx:Value)(cells:List Value):Prop:=
 cells.length=n*sz/\∀w',w'.heap=w.heap->(Builtin.firstCells sz n cx).run P w'= .ok cells.toArray w'
def mq (K:bA)(T:Nat->Nat)(w:World)(sz:Nat)(l:List V)(cells:List Value):Prop:=
 ∀i,i<l.length->(l.getD i aP).cells.length=sz/\∀j,j<sz->Rel K T w ((l.getD i aP).cells.getD j aP) (cells.getD (i*sz+j) undef)
theorem mq.ext {K' T' w'}{sz:Nat}{l:List V}{cells:List Value}(h:mq K T w sz l cells)(e:Ext K T w K' T' w'):mq K' T' w' sz l cells:=
 fun i hi=>⟨(h i hi).1,fun j hj=>((h i hi).2 j hj).ext e⟩
theorem mul_lt {i j n sz:Nat}(hi:i<n)(hj:j<sz):i*sz+j<n*sz:=by have:=oI sz (Nat.succ_le_of_lt hi);rw[sI] at this;omega
theorem agy {f:Nat->Nat->Value}{n sz i j:Nat}(hi:i<n)(hj:j<sz):((List.range (n*sz)).map fun q=>f (q/sz) (q% sz)).getD (i*sz+j) undef=f i j:=by
 have hlt:=mul_lt hi hj;have h1:(i*sz+j)/sz=i:=by rw[uY,Nat.mul_add_div RS,Nat.div_eq_of_lt hj,Nat.add_zero]
 have h2:(i*sz+j)% sz=j:=by rw[uY,Nat.mul_add_mod,El hj]
 simp[List.getD,hlt,h1,h2]
theorem LQ {P:Program}(w:World)(sz:Nat)(a:Option Addr):(Builtin.firstCells sz 0 (.slice a 0 0)).run P w= .ok #[] w:=by
 cases a with
 |none=>simp[Builtin.firstCells]|some a=>simpa using run_firstCells_some (P:=P) w sz 0 a 0 0 [] aD (fun j v hj=>by simp at hj)
theorem apQ {c:Cap}{l:List V}{cx:Value}{sz:Nat}(h:Rel K T w (.ak c l) cx)(hs:oK sz l=true):∃cells,Src E.P w sz l.length cx cells/\mq K T w sz l cells:=by
 cases h with
 |gq _ a ha hc=>exact⟨[],⟨aD,fun w' _=>LQ w' sz a⟩,fun i hi=>absurd hi (gQ i)⟩
 |ak _ _ b o n cap val hle hn hcell hrel hc=>
  by_cases h0:l=[]
  .subst h0;refine⟨[],⟨aD,fun w' hw=>?_⟩,fun i hi=>absurd hi (gQ i)⟩;have:=run_firstCells_some (P:=E.P) w' sz 0 (at_ b o) 0 cap [] aD (fun j v hj=>by simp at hj);simpa using this
  .have hpos:0<l.length:=uZ.2 h0;have apR:n=sz:=V5 hs hn hpos;subst apR;refine⟨(List.range (l.length*n)).map fun q=>val (q/n) (q% n),⟨aD,fun w' hw=>?_⟩,fun i hi=>⟨hn i hi,fun j hj=>?_⟩⟩
   .refine run_firstCells_some (P:=E.P) w' n l.length (at_ b o) l.length cap _ aD (fun j v hj=>?_);have hjl:j<l.length*n:=(by have:=(uX.1 hj).1;simpa using this);have hn0:0<n:=by
     rcases Nat.eq_zero_or_pos n with h|h
     .subst h;simp at hjl
     .exact h
    simp[hjl] at hj;subst hj;rw[addr_add];have:=(hcell (j/n) (j% n) (Nat.div_lt_of_lt_mul (by rw[uY];exact hjl)) (Nat.mod_lt _ hn0)).1;rw[cell_of_heap (w:=w) (by rw[hw])]
    rwa[oZ,uY,Nat.div_add_mod] at this
   .rw[agy hi hj];exact hrel i j hi hj
theorem agz {s:List UInt8}{cx:Value}{e:TypeId}(h:Rel K T w (.str s) cx):∃cells,Src E.P w 1 (s.map wJ).length cx cells/\mq K T w 1 (s.map wJ) cells:=by
 let _:=e
 cases h with|str _ b hb=>
 have hl:s.length=b.size:=by rw[<-hb];simp
 refine⟨(b.data.map fun x=>Value.int .u8 x.toNat).toList,⟨by simp[hl],fun w' _=>?_⟩,fun i hi=>?_⟩
 .simp only[Builtin.firstCells,Sem.run_pure];congr 1;have:(b.extract 0 (s.map wJ).length)=b:=by rw[fH,hl];simp
  rw[this]
 .have hi':i<s.length:=kg
  have hg:(s.map wJ).getD i aP=wJ s[i]:=Lg
  rw[hg];refine⟨rfl,fun j hj=>?_⟩;obtain rfl:j=0:=RS
  have hib:i<b.size:=RS
  have hv:((b.data.map fun x=>Value.int .u8 x.toNat).toList).getD (i*1+0) undef= .int .u8 s[i].toNat:=by
   have e1:s[i]=b.data[i]'(by simpa using hib):=by subst hb;simp
   simp[List.getD,hib,e1]
  rw[hv];exact .int _ _
theorem apS (h:bH E B0 Y K w){loc:Loc}{s off len cap sz:Nat}{ag Ci:Bool}{cs:List V}{cx:Value}(hx:Rel K Y.top w (.aS loc s off len cap sz Ci) cx)(hcs:Y.dQ loc s=some cs)(hle:off+len*sz<=cs.length)(hag:(ag||sz==1)=true)(hone:dx cs=true\/ag=true):
 ∃cells,Src E.P w sz ((chunks ag sz len (cs.drop off)).map er).length cx cells/\mq K Y.top w sz ((chunks ag sz len (cs.drop off)).map er) cells:=by
 obtain⟨ho,hA,hks⟩:=h.wL hcs;obtain⟨_,nS,_⟩:=h.obj _ _ _ ho;have hlen:((chunks ag sz len (cs.drop off)).map er).length=len:=by rw[fH,vB]
 rw[hlen];cases hx with
 |oL=>exact⟨[],⟨aD,fun w' _=>by simp[Builtin.firstCells]⟩,fun i hi=>by rw[hlen] at hi;omega⟩
 |aS _ _ _ _ _ _ _ fB hA' hcc hlc hsz=>
  by_cases h0:len*sz=0
  .refine⟨[],⟨by simp[h0],fun w' _=>?_⟩,fun i hi=>?_⟩
   .have:=run_firstCells_some (P:=E.P) w' sz len (at_ (K.blk s) off) len fB [] (by simp[h0]) (fun j v hj=>by simp at hj);simpa using this
   .rw[hlen] at hi;have hsz0:sz=0:=by
     rcases Nat.mul_eq_zero.1 h0 with h|h
     .omega
     .exact h
    subst hsz0;have hag':ag=true:=(by simpa using hag);subst hag';refine⟨?_,fun j hj=>absurd hj (gQ j)⟩;have hi':i< (chunks true 0 len (cs.drop off)).length:=(by rw[vB];exact hi);have:((chunks true 0 len (cs.drop off)).map er).getD i aP=er ((chunks true 0 len (cs.drop off)).getD i aP):=Lg;rw[this,QX,V6 _ _ _ _ _ hi];simp[V.cells]
  .obtain⟨_,vals,t,g1,g2,g3,g4⟩:=nS.2 (by rintro rfl;simp at hle;omega);refine⟨(List.range (len*sz)).map fun q=>vals.getD (off+q) undef,⟨aD,fun w' hw=>?_⟩,fun i hi=>?_⟩
   .refine run_firstCells_some (P:=E.P) w' sz len (at_ (K.blk s) off) len fB _ aD (fun j v hj=>?_);have hjl:j<len*sz:=(by have:=(uX.1 hj).1;simpa using this);simp only[List.getElem?_map,List.getElem?_range hjl,Option.map_some,iE] at hj;subst hj;rw[addr_add,cell_of_heap (w:=w) (by rw[hw])];simp[World.cell?,g1,show off+j<vals.size by omega]
   .rw[hlen] at hi;have hi':i< (chunks ag sz len (cs.drop off)).length:=(by rw[vB];exact hi);have hge:((chunks ag sz len (cs.drop off)).map er).getD i aP=er ((chunks ag sz len (cs.drop off)).getD i aP):=Lg;rw[hge,QX];have hcc:=V7 (cs:=cs.drop off) ag (n:=sz) (k:=len) (fun hf=>by subst hf;simpa using hag) dw (fun hf=>by
     rcases hone with h1|h1
     .simp only[dx,lK] at h1⊢;exact fun x hx=>h1 x (List.mem_of_mem_drop hx)
     .subst h1;cases hf) hi
    have hlt:i*sz+sz<=len*sz:=by
     have:=oI sz (Nat.succ_le_of_lt hi)
     rwa[sI] at this
    refine⟨QD,fun j hj=>?_⟩;refine Wm QD ?_;rw[hcc,rR _ hj,uh,uh];have hq:i*sz+j<len*sz:=RS;have:((List.range (len*sz)).map fun q=>vals.getD (off+q) undef).getD (i*sz+j) undef=vals.getD (off+(i*sz+j)) undef:=(by simp[List.getD,hq]);rw[this];exact g4 _ RS
structure zq (P:Program)(w:World)(sz n:Nat)(tx:TypeId)(z cx:Value)(news:List Value):Prop where
 len:news.length=n*sz
 one:∀u∈news,u.oneCell'=true
 kind:(((∃e',P.underlying tx=some (.slice e'))\/P.underlying tx=some .string)/\(∀w',(Builtin.lenOf cx).run P w'= .ok n w')/\∀w',w'.heap=w.heap->(Builtin.firstCells sz n cx).run P w'= .ok news.toArray w')\/
  ((∃k k',P.underlying tx=some (.int k)/\cx= .int k' n)/\news=(Builtin.zeroCells z.cells n).toList/\z.cells.size=sz)
theorem agA (z:Array Value){n:Nat}(h:n*z.size=0):Builtin.zeroCells z n= #[]:=by simp[Builtin.zeroCells,h,Array.range_zero']
theorem agB {n:Nat}(h:n<=2^47):IntKind.i64.wrap (n:Int)=n:=Ai
theorem run_append_room' {P:Program}{w w':World}{t tx ty e:TypeId}{i:TypeInfo}{z:Value}{n sLen sCap:Nat}{cx:Value}{news:List Value}{base:Option Addr}(ht:P.underlying t=some (.slice e))(hi:P.info? e=some i)(hz:i.zero=some z)(hs:zq P w i.size n tx z cx news)(hn:n<=2^47)(hb:n*i.bytes<=2^47)(hroom:sLen+n<=sCap)(h1:∀a,base=some a->(storeCells (a.add (sLen*i.size)) news).run P w= .ok () w')(h2:base=none->w'=w):(Builtin.append_ #[t,tx] ty #[.slice base sLen sCap,cx]).run P w= .ok (.slice base (sLen+n) sCap) w':=by
 rcases hs.kind with ⟨hk,hl,hc⟩| ⟨⟨k,k',hk,rfl⟩,hc,hzs⟩
 .have hc':=hc w rfl;cases base with
  |none=>rw[h2 rfl];rcases hk with ⟨e',hk⟩|hk<;>simp[Builtin.append_,run_underlying ht,run_underlying hk,Go.sizeOf,typeInfo,hi,hl,hroom,hc']
  |some a=>have hst:=h1 a rfl;rcases hk with ⟨e',hk⟩|hk<;>simp[Builtin.append_,run_underlying ht,run_underlying hk,Go.sizeOf,typeInfo,hi,hl,hroom,hc',hst]
 .have hw:=agB hn;have hb':¬(281474976710656< (n:Int)*(i.bytes:Int)):=by have:=Int.ofNat_le.2 hb;simp at this;omega
  have hneg:¬((n:Int)<0):=RS
  by_cases h0:n*i.size=0
  .have hnews:news=[]:=by rw[hc,agA _ (by rw[hzs];exact h0)]
   subst hnews;cases base with
   |none=>rw[h2 rfl];simp[Builtin.append_,run_underlying ht,run_underlying hk,Go.sizeOf,typeInfo,hi,hroom,asInt,asIntOf,hw,hb',hneg,h0]|some a=>have hst:=h1 a rfl;simp[Builtin.append_,run_underlying ht,run_underlying hk,Go.sizeOf,typeInfo,hi,hroom,asInt,asIntOf,hw,hb',hneg,h0,hst]
  .cases base with
   |none=>rw[h2 rfl];simp[Builtin.append_,run_underlying ht,run_underlying hk,Go.sizeOf,typeInfo,zeroValue,hi,hz,hroom,asInt,asIntOf,hw,hb',hneg]|some a=>have hst:=h1 a rfl;rw[hc] at hst;simp[Builtin.append_,run_underlying ht,run_underlying hk,Go.sizeOf,typeInfo,zeroValue,hi,hz,hroom,asInt,asIntOf,hw,hb',hneg,h0,hst]
theorem run_append_grow' {P:Program}{w:World}{t tx ty e:TypeId}{i:TypeInfo}{z:Value}{n sLen sCap:Nat}{cx:Value}{olds news:List Value}{base:Option Addr}(ht:P.underlying t=some (.slice e))(hi:P.info? e=some i)(hz:i.zero=some z)(hs:zq P w i.size n tx z cx news)(hold:∀w',w'.heap=w.heap->(Builtin.firstCells i.size sLen (.slice base sLen sCap)).run P w'= .ok olds.toArray w')(hn:sLen+n<=2^47)(hb:(sLen+n)*i.bytes<=2^47)(hroom:sCap<sLen+n):(Builtin.append_ #[t,tx] ty #[.slice base sLen sCap,cx]).run P w= .ok (.slice (some ⟨w.heap.size,0,none⟩) (sLen+n) (grownCap w (sLen+n) sCap e)) (w.drew.alloc (.cells ((olds++news).toArray++Builtin.zeroCells z.cells (grownCap w (sLen+n) sCap e-(sLen+n))) e)):=by
 have hnr:¬(sLen+n<=sCap):=RS
 have h63:¬(9223372036854775807< ((sLen:Int)+(n:Int))):=RS
 have h48:¬(281474976710656<Builtin.nextslicecap (sLen+n) sCap*i.bytes):=by have:=growslice_fits (bytes:=i.bytes) hroom RS;omega
 have hold':=hold w.drew rfl;have aFl:(olds++news).toArray=olds.toArray++news.toArray:=aD
 rcases hs.kind with ⟨hk,hl,hc⟩| ⟨⟨k,k',hk,rfl⟩,hc,hzs⟩
 .have hc':=hc w.drew rfl;rcases hk with ⟨e',hk⟩|hk<;>
   (simp[Builtin.append_,run_underlying ht,run_underlying hk,Go.sizeOf,typeInfo,zeroValue,hi,hz,hl,hnr,h63,h48,Question.forced,hc',hold',newRow,grownCap]
    congr 2;apply Array.ext';simp[fP])
 .have hw:=agB (n:=n) RS;have hnb:n*i.bytes<=2^47:=eZ (oI _ RS) hb;have hb':¬(281474976710656< (n:Int)*(i.bytes:Int)):=by have:=Int.ofNat_le.2 hnb;simp at this;omega
  have hneg:¬((n:Int)<0):=RS
  by_cases h0:n*i.size=0
  .have hnews:news=[]:=by rw[hc,agA _ (by rw[hzs];exact h0)]
   subst hnews;simp[Builtin.append_,run_underlying ht,run_underlying hk,Go.sizeOf,typeInfo,zeroValue,hi,hz,hnr,h63,h48,Question.forced,asInt,asIntOf,hw,hb',hneg,h0,hold',newRow,grownCap]
  .subst hc;simp[Builtin.append_,run_underlying ht,run_underlying hk,Go.sizeOf,typeInfo,zeroValue,hi,hz,hnr,h63,h48,Question.forced,asInt,asIntOf,hw,hb',hneg,h0,hold',newRow,grownCap];congr 2;apply Array.ext';simp[fP]
end
end aQ
end
