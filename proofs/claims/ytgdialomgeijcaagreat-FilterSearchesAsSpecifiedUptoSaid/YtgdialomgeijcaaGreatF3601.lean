import Derived.Laws.BytesArg
import Derived.Laws.MakeOwn
import Derived.Laws.StructEq
import Derived.Lib.ConvBytes
import Derived.Test.YtgdialomgeijcaaGreatF3600
set_option linter.all false
section
namespace Aq
open Go Go.RowKit
theorem uh {a b:ByteArray}:(a.data.toList==b.data.toList)=(a==b):=by rw[beq_toListBytes,ByteArray.toList_eq,ByteArray.toList_eq]
section eq
variable {P:Program}{K:Ra}{T:Nat->Nat}(w:World)
def oq (d:Nat)(e:TypeId)(n:Nat)(xs ys:Array Value):List Nat->Sem Bool
 | []=>pure true|i::is=>do
  let a<-part e xs (i*n)
  let b<-part e ys (i*n)
  let r<-Go.Op.equalIn d e a b
  if (!r)=true then pure false else oq d e n xs ys is
theorem run_equalIn_array (d:Nat)(t e:TypeId)(len n:Nat)(xs ys:Array Value)(ht:P.underlying t=some (.array len e))(hn:RL P e=some n):(Go.Op.equalIn (d+1) t (.agg xs) (.agg ys)).run P w=(oq d e n xs ys (List.range len)).run P w:=by
 simp only[Go.Op.equalIn,Sem.run_bind,run_underlying ht,Result.andThen_ok,dD w hn];rw[Std.Legacy.Range.forIn_eq_forIn_range'];simp only[Std.Legacy.Range.size,Nat.sub_zero,Nat.add_sub_cancel,Nat.div_one,<-List.range_eq_range'];generalize List.range len=is;clear ht;induction is generalizing w with
 |nil=>simp[oq]|cons i is ih=>
  simp only[List.forIn_cons,oq,Sem.run_bind,Sem.run_ite];generalize (part e xs (i*n)).run P w=r1;cases r1 with
  |ok a w1=>
   simp only[Result.andThen_ok];generalize (part e ys (i*n)).run P w1=r2;cases r2 with
   |ok b w2=>
    simp only[Result.andThen_ok];generalize (Go.Op.equalIn d e a b).run P w2=r3;cases r3 with
    |ok r w3=>
     cases r
     .simp only[Result.andThen_ok,Bool.not_false,if_true,Sem.run_pure]
     .simp only[Result.andThen_ok,Bool.not_true,PE,if_false,Sem.run_pure];exact ih w3
    |halt x w3=>simp[Result.andThen]
   |halt x w2=>simp[Result.andThen]
  |halt x w1=>simp[Result.andThen]
theorem uj:∀(d n:Nat),d<=n->∀(t:TypeId)(x y:V)(cx cy:Value)(r:Bool),Rel K T w x cx->Rel K T w y cy->jP P d t x y=some r->(Go.Op.equalIn n t cx cy).run P w= .ok r w
 |0,_,_,_,_,_,_,_,_,_,_,h=>by simp[jP] at h|d+1,0,hd,_,_,_,_,_,_,_,_,_=>by omega|d+1,n+1,hd,t,x,y,cx,cy,r,hx,hy,h=>by
  have ih:=uj d n (by omega);unfold jP at h;split at h
  .rename_i a b hu;cases hx;cases hy;simp only[iE] at h;subst h;simp[Go.Op.equalIn,run_underlying hu]
  .rename_i kk k a k' b hu;cases hx;cases hy;split at h
   .rename_i hk;subst hk;simp only[iE] at h;subst h;simp[Go.Op.equalIn,run_underlying hu]
   .simp at h
  .rename_i a b hu;cases hx with|str _ ba ha=>cases hy with|str _ bb hb=>
   simp only[iE] at h;subst h;subst ha;subst hb;simp only[Go.Op.equalIn,Sem.run_bind,run_underlying hu,Result.andThen_ok,Sem.run_pure,uh]
  .rename_i fs xs ys hu;split at h
   .simp at h
   .rename_i hsi;cases hx with|agg _ vx hlx hrx=>cases hy with|agg _ vy hly um=>
    have hf:P.fieldsOf t=fs:=(by simp[Program.fieldsOf,hu]);rw[run_equalIn_struct w n t vx vy (by rw[hf];exact hu) (by simpa using hsi),hf];generalize fs.toList=l at h⊢;clear hf hu;induction l generalizing r with
    |nil=>simp only[kR,iE] at h;subst h;rfl|cons f l ihl=>
     simp only[kR] at h;simp only[Op.eqFields];split at h
     .rename_i hn;simp only[hn,ne_eq,not_true_eq_false,if_false];exact ihl r h
     .rename_i hn;simp only[iP,Py] at h;obtain⟨a,ha,b,hb,q,hq,r',hr',rfl⟩:=h;obtain⟨ca,ra,uo⟩:=mG hlx hrx ha;obtain⟨cb,rb,uq⟩:=mG hly um hb;simp only[hn,ne_eq,not_false_eq_true,if_true,Sem.run_bind,ra,rb,Result.andThen_ok,ih f.type a b ca cb q uo uq hq,Sem.run_ite];cases q
      .simp
      .simpa using ihl r' hr'
  .rename_i len e xs ys hu;simp only[iP] at h;obtain⟨sz,hsz,h⟩:=h;cases hx with|agg _ vx hlx hrx=>cases hy with|agg _ vy hly um=>
   rw[run_equalIn_array w n t e len sz vx vy hu hsz];generalize List.range len=l at h⊢;clear hu;induction l generalizing r with
   |nil=>simp only[l9,iE] at h;subst h;rfl|cons i l ihl=>
    simp only[l9] at h;simp only[oq];simp only[iP,Py] at h;obtain⟨a,ha,b,hb,q,hq,r',hr',rfl⟩:=h;obtain⟨ca,ra,uo⟩:=mG hlx hrx ha;obtain⟨cb,rb,uq⟩:=mG hly um hb;simp only[Sem.run_bind,ra,rb,Result.andThen_ok,ih e a b ca cb q uo uq hq,Sem.run_ite];cases q
    .simp
    .simpa using ihl r' hr'
  .simp at h
theorem FK (op:BinOp)(t:TypeId)(ox oy:Operand){ms}(hu:P.underlying t=some (.interface ms))(hms:ms.isEmpty=true):(eqGuard op t ox oy .nilIface .nilIface).run P w= .ok () w:=by
 have hg0:∀d,(Go.Op.eqGuardIn (d+1) t .nilIface .nilIface).run P w= .ok false w:=fun d=>by simp[Go.Op.eqGuardIn,run_underlying hu,hms]
 have hg:(Go.Op.eqGuardIn Go.Op.maxDepth t .nilIface .nilIface).run P w= .ok false w:=hg0 9999;unfold eqGuard;generalize Go.Op.eqGuardIn Go.Op.maxDepth t .nilIface .nilIface=s at hg⊢;cases op<;>first|rfl| (cases ox<;>cases oy<;>first|rfl|simp[hg])
theorem eq_nil (n:Nat)(t:TypeId){ms}(hu:P.underlying t=some (.interface ms)):(Go.Op.equalIn (n+1) t .nilIface .nilIface).run P w= .ok true w:=by simp[Go.Op.equalIn,run_underlying hu]
theorem FL (n:Nat)(t:TypeId){ms}{u c}(hu:P.underlying t=some (.interface ms)):(Go.Op.equalIn (n+1) t .nilIface (.iface u c)).run P w= .ok false w:=by simp[Go.Op.equalIn,run_underlying hu]
theorem FP (n:Nat)(t:TypeId){ms}{u c}(hu:P.underlying t=some (.interface ms)):(Go.Op.equalIn (n+1) t (.iface u c) .nilIface).run P w= .ok false w:=by simp[Go.Op.equalIn,run_underlying hu]
theorem FQ {op:BinOp}(n:Nat)(hn:8<=n+1)(t:TypeId)(x y:V)(cx cy:Value)(r:Bool)(ox oy:Operand)(hx:Rel K T w x cx)(hy:Rel K T w y cy)(h:gL P t x y=some r):(eqGuard op t ox oy cx cy).run P w= .ok () w/\(Go.Op.equalIn (n+1) t cx cy).run P w= .ok r w:=by
 unfold gL at h;split at h
 .rename_i hu;cases hx;cases hy;simp only[iE] at h;subst h;exact⟨by cases op<;>rfl,by simp[Go.Op.equalIn,run_underlying hu]⟩
 .rename_i hu;cases hx;cases hy<;>(simp only[iE] at h;subst h;exact⟨by cases op<;>rfl,by simp[Go.Op.equalIn,run_underlying hu]⟩)
 .rename_i hu;cases hy;cases hx<;>(simp only[iE] at h;subst h;exact⟨by cases op<;>rfl,by simp[Go.Op.equalIn,run_underlying hu]⟩)
 .rename_i hu;cases hx;cases hy;simp only[iE] at h;subst h;exact⟨by cases op<;>rfl,by simp[Go.Op.equalIn,run_underlying hu]⟩
 .rename_i hu;cases hx;cases hy;simp only[iE] at h;subst h;exact⟨by cases op<;>rfl,by simp[Go.Op.equalIn,run_underlying hu]⟩
 .rename_i hu;cases hx;cases hy;simp only[iE] at h;subst h;exact⟨by cases op<;>rfl,by simp[Go.Op.equalIn,run_underlying hu]⟩
 .rename_i hu;cases hx;cases hy;simp only[iE] at h;subst h;exact⟨by cases op<;>rfl,by simp[Go.Op.equalIn,run_underlying hu]⟩
 .rename_i hu;cases hx;cases hy;simp only[iE] at h;subst h;exact⟨by cases op<;>rfl,by simp[Go.Op.equalIn,run_underlying hu]⟩
 .rename_i hu;simp only[iE] at h;subst h;cases hx with
  |tX _ _ _ _ _ _ _ _ _ _ _ hc=>exact hc.elim|aW _ a ha _=>cases hy with
   |tX _ _ _ _ _ _ _ _ _ _ _ hc=>exact hc.elim|aW _ a' ha' _=>
    cases ha rfl;cases ha' rfl;exact⟨by cases op<;>rfl,by simp[Go.Op.equalIn,run_underlying hu]⟩
 .rename_i hu;simp only[iE] at h;subst h;cases hx with
  |tX _ _ _ _ _ _ _ _ _ _ _ hc=>exact hc.elim|aW _ a ha _=>cases ha rfl;cases hy with
   |tX _ _ _ _ _ _ _ _ _ _ _ hc=>exact⟨by cases op<;>rfl,by simp[Go.Op.equalIn,run_underlying hu]⟩
 .rename_i hu;simp only[iE] at h;subst h;cases hy with
  |tX _ _ _ _ _ _ _ _ _ _ _ hc=>exact hc.elim|aW _ a ha _=>cases ha rfl;cases hx with
   |tX _ _ _ _ _ _ _ _ _ _ _ hc=>exact⟨by cases op<;>rfl,by simp[Go.Op.equalIn,run_underlying hu]⟩
 .rename_i hu;cases hx;cases hy;simp only[iE] at h;subst h;exact⟨by cases op<;>rfl,by simp[Go.Op.equalIn,run_underlying hu]⟩
 .rename_i hu;cases hx;cases hy;simp only[iE] at h;subst h;exact⟨by cases op<;>rfl,by simp[Go.Op.equalIn,run_underlying hu]⟩
 .rename_i hu;cases hx;cases hy;simp only[iE] at h;subst h;exact⟨by cases op<;>rfl,by simp[Go.Op.equalIn,run_underlying hu]⟩
 .rename_i hu;cases hx;cases hy;simp only[iE] at h;subst h;exact⟨by cases op<;>rfl,by simp[Go.Op.equalIn,run_underlying hu]⟩
 .rename_i hu;cases hx;cases hy;simp only[iE] at h;subst h;exact⟨by cases op<;>rfl,by simp[Go.Op.equalIn,run_underlying hu]⟩
 .rename_i hu;split at h
  .simp at h
  .rename_i hg;refine⟨?_,uj w 8 (n+1) hn t _ _ cx cy r hx hy h⟩;cases hx;cases hy;exact run_eqGuard_agg w op t ox oy _ _ (by simpa using hg)
 .rename_i hu;split at h
  .simp at h
  .rename_i hg;refine⟨?_,uj w 8 (n+1) hn t _ _ cx cy r hx hy h⟩;cases hx;cases hy;exact run_eqGuard_agg w op t ox oy _ _ (by simpa using hg)
 .rename_i hu;cases hx;cases hy;simp only[iE] at h;subst h;exact⟨by cases op<;>rfl,by simp[Go.Op.equalIn,run_underlying hu]⟩
 .rename_i ms hu;split at h
  .rename_i hms;cases hx;cases hy;simp only[iE] at h;subst h;exact⟨FK w op t ox oy hu hms,eq_nil w n t hu⟩
  .cases h
 .rename_i hu;cases hx;cases hy;simp only[iE] at h;subst h;exact⟨by cases op<;>rfl,FL w n t hu⟩
 .rename_i hu;cases hx;cases hy;simp only[iE] at h;subst h;exact⟨by cases op<;>rfl,FP w n t hu⟩
 .simp at h
theorem zh {op:BinOp}(t:TypeId)(x y:V)(cx cy:Value)(r:Bool)(ox oy:Operand)(hx:Rel K T w x cx)(hy:Rel K T w y cy)(h:gL P t x y=some r):(eqGuard op t ox oy cx cy).run P w= .ok () w/\(Go.Op.equal t cx cy).run P w= .ok r w:=
 FQ w 9999 (by omega) t x y cx cy r ox oy hx hy h
end eq
section
variable {P:Program}{K:Ra}{T:Nat->Nat}(w:World)
theorem FT {op:BinOp}{t:TypeId}{k:IntKind}{a b:Int}{v:V}(h:TT op k a b=some v):
 ∃c,(binOp op t (.int k a) (.int k b)).run P w= .ok c w/\Rel K T w v c:=by
 cases op with
 |quo=>
  simp only[TT] at h;split at h
  .simp at h
  .rename_i hb;simp only[iE] at h;subst h;exact⟨_,by simp only[binOp_quo,Op.intDiv,hb,if_false,Sem.run_pure],.int _ _⟩
 |rem=>
  simp only[TT] at h;split at h
  .simp at h
  .rename_i hb;simp only[iE] at h;subst h;exact⟨_,by simp only[binOp_rem,Op.intDiv,hb,if_false,Sem.run_pure],.int _ _⟩
 |shl=>simp[TT] at h|shr=>simp[TT] at h|add=>simp only[TT,iE] at h;subst h;exact⟨_,by simp only[binOp_add,Op.intArith,Sem.run_pure],.int _ _⟩|sub=>simp only[TT,iE] at h;subst h;exact⟨_,by simp only[binOp_sub,Op.intArith,Sem.run_pure],.int _ _⟩|mul=>simp only[TT,iE] at h;subst h;exact⟨_,by simp only[binOp_mul,Op.intArith,Sem.run_pure],.int _ _⟩|and=>simp only[TT,iE] at h;subst h;exact⟨_,by simp only[binOp_and,Op.intBits,Sem.run_pure],.int _ _⟩
 |or=>simp only[TT,iE] at h;subst h;exact⟨_,by simp only[binOp_or,Op.intBits,Sem.run_pure],.int _ _⟩|xor=>simp only[TT,iE] at h;subst h;exact⟨_,by simp only[binOp_xor,Op.intBits,Sem.run_pure],.int _ _⟩|andNot=>simp only[TT,iE] at h;subst h;exact⟨_,by simp only[binOp_andNot,Op.intBits,Sem.run_pure],.int _ _⟩|eql=>simp only[TT,iE] at h;subst h;exact⟨_,by simp only[binOp_eql,Sem.run_pure],.bool _⟩|neq=>simp only[TT,iE] at h;subst h;exact⟨_,by simp only[binOp_neq,Sem.run_pure],.bool _⟩
 |lss=>simp only[TT,iE] at h;subst h;exact⟨_,by simp only[binOp_lss,Sem.run_pure],.bool _⟩|leq=>simp only[TT,iE] at h;subst h;exact⟨_,by simp only[binOp_leq,Sem.run_pure],.bool _⟩|gtr=>simp only[TT,iE] at h;subst h;exact⟨_,by simp only[binOp_gtr,Sem.run_pure],.bool _⟩|geq=>simp only[TT,iE] at h;subst h;exact⟨_,by simp only[binOp_geq,Sem.run_pure],.bool _⟩
theorem FU {op:BinOp}{t:TypeId}{x y:List UInt8}{a b:ByteArray}{v:V}(ha:a.data.toList=x)(hb:b.data.toList=y)(h:jQ op x y=some v):
 ∃c,(binOp op t (.string a) (.string b)).run P w= .ok c w/\Rel K T w v c:=by
 have e:binOp op t (.string a) (.string b)=Op.stringOp op a b:=by cases op<;>rfl
 rw[e];subst ha;subst hb;cases op with
 |add=>
  simp only[jQ] at h;split at h
  .simp at h
  .rename_i hn;simp only[iE] at h;subst h;have hn':¬((a.size+b.size:Nat):Int)>IntKind.i64.max:=by simpa using hn
   exact⟨.string (a++b),by simp only[Op.stringOp,hn',if_false,Sem.run_pure],.str _ _ (by simp)⟩
 |_=>first
  | (simp only[jQ,iE] at h;subst h;refine⟨_,?_,.bool _⟩;simp only[Op.stringOp,Sem.run_pure,ByteArray.toList_eq])
  |simp[jQ] at h
def FV:V->Prop
 |.int _ _|.str _|.raw _|.Rn _=>False|_=>True
theorem zi {t:TypeId}{x y:V}{r:Bool}(h:gL P t x y=some r):FV x:=by unfold gL at h;split at h<;>first|exact trivial|simp at h
theorem FX {op:BinOp}{t:TypeId}{x y v:V}{cx cy:Value}(ox oy:Operand)(hx:Rel K T w x cx)(hy:Rel K T w y cy)(h:VU P op t x y=some v):
 ∃c,(do eqGuard op t ox oy cx cy;binOp op t cx cy:Sem Value).run P w= .ok c w/\Rel K T w v c:=by
 unfold VU at h;split at h
 .cases hx;cases hy;rename_i k a k' b;unfold nW at h;split at h
  .simp at h
  .rename_i hb;simp only[iE] at h;subst h;refine⟨.int k (k.wrap (a*2^min b.toNat k.bits)),?_,.int _ _⟩;rw[eqGuard_shl];simp[binOp_shl,Op.shift,hb]
 .cases hx;cases hy;rename_i k a k' b;unfold nW at h;split at h
  .simp at h
  .rename_i hb;simp only[iE] at h;subst h;refine⟨.int k (a.fdiv (2^min b.toNat k.bits)),?_,.int _ _⟩;rw[eqGuard_shr];simp[binOp_shr,Op.shift,hb]
 .cases hx;cases hy;split at h
  .rename_i hk;subst hk;rw[eqGuard_at_int];simp only[pure_bind];exact FT w h
  .simp at h
 .cases hx with|str _ a ha=>cases hy with|str _ b hb=>
  rw[eqGuard_at_string];simp only[pure_bind];exact FU w ha hb h
 .simp only[Py] at h;obtain⟨r,hr,rfl⟩:=h;obtain⟨g1,g2⟩:=zh (op:=.eql) w t x y cx cy r ox oy hx hy hr;refine⟨.bool r,?_,.bool r⟩;have e:binOp .eql t cx cy=(Op.equal t cx cy>>=fun b=>pure (Value.bool b)):=by have hk:=zi hr;cases hx<;>first|exact hk.elim|rfl| (cases hy<;>rfl)
  rw[e];simp[g1,g2]
 .simp only[Py] at h;obtain⟨r,hr,rfl⟩:=h;obtain⟨g1,g2⟩:=zh (op:=.neq) w t x y cx cy r ox oy hx hy hr;refine⟨.bool !r,?_,.bool _⟩;have e:binOp .neq t cx cy=(Op.equal t cx cy>>=fun b=>pure (Value.bool !b)):=by have hk:=zi hr;cases hx<;>first|exact hk.elim|rfl| (cases hy<;>rfl)
  rw[e];simp[g1,g2]
 .simp at h
end
def ou (K:Ra)(T:Nat->Nat)(w:World)(cs:List V)(vs:Array Value):Prop:=
 cs.length=vs.size/\∀i,i<cs.length->Rel K T w (cs.getD i Lv) (vs.getD i undef)
theorem iW {U:Type}(l:List U)(n i:Nat)(d:U):(l.drop n).getD i d=l.getD (n+i) d:=by simp[List.getD,List.getElem?_drop]
theorem iA {U:Type}(l:List U){n i:Nat}(h:i<n)(d:U):(l.take n).getD i d=l.getD i d:=by simp[List.getD,h]
section
variable {P:Program}{K:Ra}{T:Nat->Nat}(w:World)
theorem FY {op:UnOp}{x v:V}{cx:Value}(hx:Rel K T w x cx)(h:kS op x=some v):∃c,(Op.unary op cx).run P w= .ok c w/\Rel K T w v c:=by
 unfold kS at h;split at h
 .cases hx;simp only[iE] at h;subst h;exact⟨_,rfl,.int _ _⟩
 .cases hx;simp only[TT,iE] at h;subst h;exact⟨_,rfl,.int _ _⟩
 .cases hx;simp only[iE] at h;subst h;exact⟨_,rfl,.bool _⟩
 .simp at h
theorem mH {x:V}{cx:Value}(hx:Rel K T w x cx){y yc k:Nat}(hy:y<=yc)(code:BoundsCode)(h:bnd x y=some k):(Instr.sliceBound cx yc code).run P w= .ok k w/\k<=y:=by
 simp only[bnd,iP] at h;obtain⟨i,hi,h⟩:=h;split at h
 .rename_i hb;simp only[iE] at h;subst h;cases x<;>simp[fu] at hi;subst hi;cases hx;rename_i kk q;refine⟨?_,by omega⟩;have:0<=q/\q<=(yc:Int):=by omega
  simp[Instr.sliceBound,asIntOf,this]
 .simp at h
theorem qI {lo hi mx:Option V}{jv jw jy:Option Value}(uw:Bool){len cap aR l h m:Nat}(hlc:len<=cap)(hcap:cap<=aR)(r1:∀v,lo=some v->∃c,jv=some c/\Rel K T w v c)(n1:lo=none->jv=none)(r2:∀v,hi=some v->∃c,jw=some c/\Rel K T w v c)(n2:hi=none->jw=none)(r3:∀v,mx=some v->∃c,jy=some c/\Rel K T w v c)(n3:mx=none->jy=none)(hb:fD len cap lo hi mx=some (l,h,m)):
 ∃mc,(Instr.sliceBounds uw len aR jv jw jy).run P w= .ok (l,h,mc) w/\l<=h/\h<=m/\m<=cap/\m<=mc/\mc<=aR/\(mx.isSome->mc=m)/\(mx=none->mc=aR/\m=cap):=by
 simp only[fD,iP] at hb;obtain⟨m',hm,h',hh,l',hl,e⟩:=hb;simp only[iE,iR] at e;obtain⟨rfl,rfl,rfl⟩:=e;cases mx with
 |none=>
  simp only[iE] at hm;subst hm;obtain rfl:=n3 rfl;cases hi with
  |none=>
   simp only[iE] at hh;subst hh;obtain rfl:=n2 rfl;cases lo with
   |none=>simp only[iE] at hl;subst hl;obtain rfl:=n1 rfl;exact⟨aR,by simp[Instr.sliceBounds],by omega,by omega,by omega,by omega,by omega,by simp,by simp⟩
   |some vl=>obtain⟨cl,rfl,rl⟩:=r1 vl rfl;obtain⟨g1,g2⟩:=mH (P:=P) w rl (mF _) .sliceB hl;exact⟨aR,by simp[Instr.sliceBounds,g1],by omega,by omega,by omega,by omega,by omega,by simp,by simp⟩
  |some vh=>
   obtain⟨ch,rfl,rh⟩:=r2 vh rfl;obtain⟨f1,f2⟩:=mH (P:=P) w rh hcap (if uw then .sliceAcap else .sliceAlen) hh;cases lo with
   |none=>simp only[iE] at hl;subst hl;obtain rfl:=n1 rfl;exact⟨aR,by simp[Instr.sliceBounds,f1],by omega,by omega,by omega,by omega,by omega,by simp,by simp⟩
   |some vl=>obtain⟨cl,rfl,rl⟩:=r1 vl rfl;obtain⟨g1,g2⟩:=mH (P:=P) w rl (mF _) .sliceB hl;exact⟨aR,by simp[Instr.sliceBounds,f1,g1],by omega,by omega,by omega,by omega,by omega,by simp,by simp⟩
 |some vm=>
  obtain⟨cm,rfl,rm⟩:=r3 vm rfl;obtain⟨e1,e2⟩:=mH (P:=P) w rm hcap (if uw then .slice3Acap else .slice3Alen) hm;cases hi with
  |none=>simp at hh|some vh=>
   obtain⟨ch,rfl,rh⟩:=r2 vh rfl;obtain⟨f1,f2⟩:=mH (P:=P) w rh (mF _) .slice3B hh;cases lo with
   |none=>simp only[iE] at hl;subst hl;obtain rfl:=n1 rfl;exact⟨m',by simp[Instr.sliceBounds,e1,f1],by omega,by omega,by omega,by omega,by omega,by simp,by simp⟩
   |some vl=>obtain⟨cl,rfl,rl⟩:=r1 vl rfl;obtain⟨g1,g2⟩:=mH (P:=P) w rl (mF _) .slice3C hl;exact⟨m',by simp[Instr.sliceBounds,e1,f1,g1],by omega,by omega,by omega,by omega,by omega,by simp,by simp⟩
theorem Rel.sub {c:Cap}{l:List V}{b o n cap:Nat}(val:Nat->Nat->Value)(hn:∀i,i<l.length->(l.getD i Lv).cells.length=n)(hcell:∀i j,i<l.length->j<n->w.cell? (at_ b (o+i*n+j))=some (val i j)/\K.I b (o+i*n+j))(hrel:∀i j,i<l.length->j<n->Rel K T w ((l.getD i Lv).cells.getD j Lv) (val i j)){lo hi:Nat}(h1:lo<=hi)(h2:hi<=l.length)(hcap:hi-lo<=cap)(hc:fT K T c n b (o+lo*n) (hi-lo) cap):Rel K T w (.tX c ((l.take hi).drop lo)) (.slice (some (at_ b (o+lo*n))) (hi-lo) cap):=by
 have hlen:((l.take hi).drop lo).length=hi-lo:=by simp;omega
 have hget:∀i,i<hi-lo->((l.take hi).drop lo).getD i Lv=l.getD (lo+i) Lv:=fun i hi'=>by rw[iW,iA _ (by omega)]
 have key:Rel K T w (.tX c ((l.take hi).drop lo)) (.slice (some (at_ b (o+lo*n))) ((l.take hi).drop lo).length cap):=by
  refine .tX c _ b (o+lo*n) n cap (fun i j=>val (lo+i) j) (by omega) (fun i hi'=>?_) (fun i j hi' hj=>?_) (fun i j hi' hj=>?_) (by rw[hlen];exact hc)
  .rw[hget i (by omega)];exact hn _ (by omega)
  .have:=hcell (lo+i) j (by omega) hj
   rwa[show o+(lo+i)*n+j=o+lo*n+i*n+j by rw[Qk];omega] at this
  .rw[hget i (by omega)];exact hrel _ j (by omega) hj
 rwa[hlen] at key
theorem uy {sz n:Nat}{l:List V}(h:dH sz l=true)(hn:∀i,i<l.length->(l.getD i Lv).cells.length=n)(hl:0<l.length):n=sz:=by
 cases l with
 |nil=>simp at hl|cons v l=>have:=hn 0 (by simp);simp only[dH,beq_iff_eq] at h;simpa [h] using this.symm
theorem iD (ag:Bool)(n:Nat):∀(k:Nat)(cs:List V),(chunks ag n k cs).length=k
 |0,_=>rfl|k+1,cs=>by simp[chunks,iD ag n k]
theorem uz (ag:Bool)(n:Nat):∀(k:Nat)(cs:List V)(i:Nat),i<k->(chunks ag n k cs).getD i Lv=if ag then V.agg ((cs.drop (i*n)).take n) else (cs.drop (i*n)).headD Lv
 |k+1,cs,0,_=>by simp[chunks,List.getD]|k+1,cs,i+1,h=>by have:=uz ag n k (cs.drop n) i (by omega);simp only[chunks,List.getD_cons_succ,this,List.drop_drop];rw[show n+i*n=(i+1)*n by rw[Qk];omega]
theorem zk (ag:Bool){n k:Nat}{cs:List V}(h1:ag=false->n=1)(hl:k*n<=cs.length)(hone:ag=false->RP cs=true){i:Nat}(hi:i<k):((chunks ag n k cs).getD i Lv).cells=(cs.drop (i*n)).take n:=by
 have hmul:i*n+n<=k*n:=by have:=Qp n (Nat.succ_le_of_lt hi);rw[Qq] at this;exact this
 rw[uz ag n k cs i hi];cases ag with
 |true=>rfl|false=>
  have hn:=h1 rfl;subst hn;have hlt:i<cs.length:=by omega
  have hd:cs.drop (i*1)=cs[i]::cs.drop (i+1):=by rw[Nat.mul_one];exact Qd hlt
  have ho:oneCell cs[i]=true:=by have:=hone rfl;simp only[RP,P6] at this;exact this _ (Qy hlt)
  rw[hd];simp only[PE,if_false,List.headD_cons,List.take_succ_cons,List.take_zero];cases hc:cs[i]<;>simp_all[oneCell,V.cells]
theorem ow {c:Cap}{ag:Bool}{n k b o cap:Nat}{cs:List V}(val:Nat->Value)(h1:ag=false->n=1)(hl:k*n<=cs.length)(hone:ag=false->RP cs=true)(hcell:∀j,j<k*n->w.cell? (at_ b (o+j))=some (val j)/\K.I b (o+j))(hrel:∀j,j<k*n->Rel K T w (cs.getD j Lv) (val j))(hcap:k<=cap)(hc:fT K T c n b o k cap):Rel K T w (.tX c (chunks ag n k cs)) (.slice (some (at_ b o)) k cap):=by
 have hmul:∀i j,i<k->j<n->i*n+j<k*n:=fun i j hi hj=>by have:=Qp n (Nat.succ_le_of_lt hi);rw[Qq] at this;omega
 have hcl:∀i,i<k->((chunks ag n k cs).getD i Lv).cells=(cs.drop (i*n)).take n:=fun i hi=>zk ag h1 hl hone hi;have key:Rel K T w (.tX c (chunks ag n k cs)) (.slice (some (at_ b o)) (chunks ag n k cs).length cap):=by
  refine .tX c _ b o n cap (fun i j=>val (i*n+j)) (by rw[iD];exact hcap) (fun i hi=>?_) (fun i j hi hj=>?_) (fun i j hi hj=>?_) (by rw[iD];exact hc)
  .rw[iD] at hi;rw[hcl i hi];have:=Qp n (Nat.succ_le_of_lt hi);rw[Qq] at this;simp;omega
  .rw[iD] at hi;have:=hcell (i*n+j) (hmul i j hi hj)
   rwa[<-Qv] at this
  .rw[iD] at hi;rw[hcl i hi,iA _ hj,iW];exact hrel _ (hmul i j hi hj)
 rwa[iD] at key
theorem FZ {E:Env}{B0:Nat}{Y:qd}(hT:T=Y.top)(hs:au E B0 Y K w){t:TypeId}{x v:V}{cx:Value}{lo hi mx:Option V}{jv jw jy:Option Value}(hx:Rel K T w x cx)(r1:∀v,lo=some v->∃c,jv=some c/\Rel K T w v c)(n1:lo=none->jv=none)(r2:∀v,hi=some v->∃c,jw=some c/\Rel K T w v c)(n2:hi=none->jw=none)(r3:∀v,mx=some v->∃c,jy=some c/\Rel K T w v c)(n3:mx=none->jy=none)(h:gM P Y t x lo hi mx=some v):∃c,(Instr.sliceAt t cx jv jw jy).run P w= .ok c w/\Rel K T w v c:=by
 unfold gM at h;split at h
 .rename_i e c s hu;simp only[iP] at h;obtain⟨sz,hsz,⟨l,hh,m⟩,hbv,h⟩:=h;split at h
  .rename_i F4;simp only[iE] at h;cases hx with
   |aW _ a ha hc=>
    obtain⟨mc,g1,g2,g3,g4,g5,g6,g7,g8⟩:=qI (P:=P) w true (mF _) (mF _) r1 n1 r2 n2 r3 n3 hbv;simp only[List.length_nil] at g1 g4 g6;obtain rfl:m=0:=(by omega);obtain rfl:hh=0:=(by omega);obtain rfl:l=0:=(by omega);obtain rfl:mc=0:=(by omega);refine⟨.slice a 0 0,by cases a<;>simp[Instr.sliceAt,Instr.slice,run_underlying hu,dD w hsz,g1],?_⟩;subst h;split
    .exact .aW c a ha hc
    .rename_i hn;cases mx with
     |none=>simp at hn|some vm=>simp;exact .aW _ a (fun h=>by cases h) trivial
   |tX _ _ b o n cap val hle hn hcell hrel hc=>
    obtain⟨mc,g1,g2,g3,g4,g5,g6,g7,g8⟩:=qI (P:=P) w true (mF _) hle r1 n1 r2 n2 r3 n3 hbv;have hn':0<l->n=sz:=fun hl=>uy F4 hn (by omega);have hrun:(Instr.sliceAt t (.slice (some (at_ b o)) s.length cap) jv jw jy).run P w= .ok (.slice (some (at_ b (if mc=l then o else o+l*sz))) (hh-l) (mc-l)) w:=by
     simp only[Instr.sliceAt,Instr.slice,Sem.run_bind,run_underlying hu,dD w hsz,g1,Result.andThen_ok,Sem.run_pure];split
     .simp
     .simp[addr_add]
    refine⟨_,hrun,?_⟩;subst h;split
    .rename_i hw;obtain⟨rfl,rfl,hm⟩:=hw;have hm':mx=none:=(by cases mx<;>simp_all);obtain⟨rfl,_⟩:=g8 hm';have:(if mc=0 then o else o+0*sz)=o:=(by simp);rw[this];exact .tX c s b o n mc val hle hn hcell hrel hc
    .have hgo:∀c',(∀n' s',c'≠ .own n' s')->fT K T c' n b (o+l*n) (hh-l) (mc-l)->Rel K T w (.tX c' ((s.take hh).drop l)) (.slice (some (at_ b (if mc=l then o else o+l*sz))) (hh-l) (mc-l)):=by
      intro c' hown hc';by_cases hml:mc=l
      .have:hh=l:=(by omega);subst this;have hnil:(s.take hh).drop hh=[]:=(by simp);rw[hnil];have key:Rel K T w (.tX c' []) (.slice (some (at_ b (if mc=hh then o else o+hh*sz))) ([]:List V).length (mc-hh)):=by
        refine .tX c' [] b _ n _ (fun _ _=>undef) (by simp) (fun i hi=>absurd hi (PO i)) (fun i j hi=>absurd hi (PO i)) (fun i j hi=>absurd hi (PO i)) ?_;cases c' with
        |sh=>trivial|full=>simpa [fT] using hc'|nil=>exact hc'.elim|own n' s'=>exact absurd rfl (hown n' s')
       simpa using key
      .have e1:(if mc=l then o else o+l*sz)=o+l*n:=by
        rw[if_neg hml];rcases Nat.eq_zero_or_pos l with h0|h0
        .simp[h0]
        .rw[hn' h0]
       rw[e1];exact Rel.sub w val hn hcell hrel g2 (by omega) (by omega) hc'
     cases mx with
     |some vm=>
      have:=g7 rfl;dsimp only;split
      .exact hgo _ (fun _ _=>by simp) (by simp only[fT];omega)
      .exact hgo _ (fun _ _=>by simp) trivial
     |none=>
      obtain⟨hmc,_⟩:=g8 rfl;dsimp only;cases c with
      |full=>
       dsimp only;split
       .exact hgo _ (fun _ _=>by simp) (by simp only[fT] at hc⊢;omega)
       .exact hgo _ (fun _ _=>by simp) trivial
      |_=>exact hgo _ (fun _ _=>by simp) trivial
  .simp at h
 .rename_i e loc st off len cap aD ag hu;simp only[iP] at h;obtain⟨sz,hsz,⟨l,hh,m⟩,hbv,h⟩:=h;split at h
  .rename_i hse;subst hse;simp only[iE] at h;cases hx with
   |dQ _ _ _ _ hA=>obtain⟨mc,g1,g2,g3,g4,g5,g6,g7,g8⟩:=qI (P:=P) w true (mF _) (mF _) r1 n1 r2 n2 r3 n3 hbv;obtain rfl:m=0:=(by omega);obtain rfl:hh=0:=(by omega);obtain rfl:l=0:=(by omega);obtain rfl:mc=0:=(by omega);refine⟨.slice none 0 0,by simp[Instr.sliceAt,Instr.slice,run_underlying hu,dD w hsz,g1],?_⟩;subst h;simp;exact .dQ loc st sz ag hA
   |vw _ _ _ _ _ _ _ aR hA hcc hle hks=>
    obtain⟨mc,g1,g2,g3,g4,g5,g6,g7,g8⟩:=qI (P:=P) w true hle hcc r1 n1 r2 n2 r3 n3 hbv;have hrun:(Instr.sliceAt t (.slice (some (at_ (K.blk st) off)) len aR) jv jw jy).run P w= .ok (.slice (some (at_ (K.blk st) (if mc=l then off else off+l*sz))) (hh-l) (mc-l)) w:=by
     simp only[Instr.sliceAt,Instr.slice,Sem.run_bind,run_underlying hu,dD w hsz,g1,Result.andThen_ok,Sem.run_pure];split
     .simp
     .simp[addr_add]
    refine⟨_,hrun,?_⟩;subst h;split
    .rename_i hw;obtain⟨rfl,h0⟩:=hw;simp only[Nat.sub_self];refine .tX _ [] (K.blk st) _ 0 _ (fun _ _=>undef) (by simp) (fun i hi=>absurd hi (PO i)) (fun i j hi=>absurd hi (PO i)) (fun i j hi=>absurd hi (PO i)) ?_;cases mx with
     |some vm=>
      have:=g7 rfl;dsimp only;split
      .simp only[fT,List.length_nil];omega
      .trivial
     |none=>trivial
    .rename_i hw;have e1:(if mc=l then off else off+l*sz)=off+l*sz:=by
      split
      .have:l=0:=(by omega);simp[this]
      .rfl
     rw[e1];refine .vw loc st _ _ _ sz ag _ hA (by omega) (by omega) ?_;have:l*sz+(mc-l)*sz<=aR*sz:=(by rw[<-Qk];exact Qp _ (by omega));omega
  .simp at h
 .simp at h
end
section
variable {E:Env}{B0:Nat}{Y:qd}{K:Ra}{w:World}{new:Nat->Prop}
theorem grownCap_ge (w:World)(n old:Nat)(e:TypeId):n<=grownCap w n old e:=by show n<=n+_% _;exact PG _ _
def Done (E:Env)(B0:Nat)(new:Nat->Prop)(Y:qd)(K:Ra)(w:World)(s:Sem Value)(v:V)(Y':qd):Prop:=
 ∃c w' K',s.run E.P w= .ok c w'/\Rel K' Y'.top w' v c/\Step E B0 new Y K w Y' K' w'
theorem Done.bV (h:au E B0 Y K w){s:Sem Value}{v:V}(hs:∃c,s.run E.P w= .ok c w/\Rel K Y.top w v c):Done E B0 new Y K w s v Y:=by obtain⟨c,h1,h2⟩:=hs;exact⟨c,w,K,h1,h2,.refl h⟩
theorem F5 (h:au E B0 Y K w)(hB:B0<=w.heap.size){src dst:TypeId}{x v:V}{cx:Value}(hx:Rel K Y.top w x cx)(hv:jR E.P Y src dst x=some v):
 Done E B0 new Y K w (convert src dst cx) v Y:=by
 unfold jR at hv;split at hv
 .rename_i d k kk n hs hd;cases hx;simp only[iE] at hv;subst hv;exact Done.bV h ⟨_,by simp[convert,run_underlying hs,run_underlying hd,Conv.intToInt],.int _ _⟩
 .rename_i d s hs hd;cases hx with|str _ b hb=>
  simp only[iE] at hv;subst hv;exact Done.bV h ⟨.string b,by cases d<;>simp[convert,run_underlying hs,run_underlying hd],.str _ _ hb⟩
 .simp at hv
end
section
variable {E:Env}{B0:Nat}{Y:qd}{K:Ra}{w:World}{new:Nat->Prop}
theorem mI {T:Nat->Nat}{x:V}{cx:Value}{n k:Nat}(hx:Rel K T w x cx)(h:idx x n=some k):∃kk i,cx= .int kk i/\0<=i/\i<n/\i.toNat=k/\k<n:=by
 simp only[idx,iP] at h;obtain⟨i,hi,h⟩:=h;split at h
 .rename_i hb;simp only[iE] at h;subst h;cases x<;>simp[fu] at hi;subst hi;cases hx;exact⟨_,_,rfl,hb.1,hb.2,rfl,by omega⟩
 .simp at h
theorem F6 {t:TypeId}{x i v:V}{cx ci:Value}{T:Nat->Nat}(hx:Rel K T w x cx)(hi:Rel K T w i ci)(h:Vh E.P t x i=some v):
 ∃c,(Instr.indexAt t cx ci).run E.P w= .ok c w/\Rel K T w v c:=by
 unfold Vh at h;split at h
 .rename_i e c l hu;simp only[iP] at h;obtain⟨sz,hsz,k,hk,el,hel,h⟩:=h;split at h
  .rename_i hcl;simp only[iE] at h;subst h;obtain⟨kk,q,rfl,h0,hlt,hq,hkl⟩:=mI hi hk;cases hx with
   |aW=>simp at hkl|tX _ _ b o n cap val hle hn hcell hrel hc=>
    have zl:l.getD k Lv=el:=(by simp[List.getD,hel]);have hn':n=sz:=(by rw[<-hn k hkl,zl,hcl]);subst hn';have hrun:(Instr.indexAt t (.slice (some (at_ b o)) l.length cap) (.int kk q)).run E.P w= .ok (.pointer (some ((at_ b o).add (q.toNat*n)))) w:=(by simp[Instr.indexAt,run_underlying hu,asIntOf,h0,hlt,dD w hsz]);refine⟨_,hrun,?_⟩;rw[addr_add,hq];have:=Rel.Q5 (K:=K) (T:=T) (w:=w) el.cells 0 b (o+k*n) (fun j=>val k j) (fun j hj=>hcell k j hkl (by omega)) (fun j hj=>by
     have:=hrel k j hkl (by omega)
     rwa[zl] at this)
    simpa using this
  .simp at h
 .rename_i e loc st off len cap aD ag hu;simp only[iP] at h;obtain⟨sz,hsz,k,hk,h⟩:=h;split at h
  .rename_i he;subst he;simp only[iE] at h;subst h;obtain⟨kk,q,rfl,h0,hlt,hq,hkl⟩:=mI hi hk;cases hx with
   |dQ=>omega|vw _ _ _ _ _ _ _ aR hA hcc hle hks=>have hrun:(Instr.indexAt t (.slice (some (at_ (K.blk st) off)) len aR) (.int kk q)).run E.P w= .ok (.pointer (some ((at_ (K.blk st) off).add (q.toNat*sz)))) w:=(by simp[Instr.indexAt,run_underlying hu,asIntOf,h0,hlt,dD w hsz]);refine⟨_,hrun,?_⟩;rw[addr_add,hq];exact .ref _ _ _ hA
  .simp at h
 .rename_i n e loc st off hu;simp only[iP,Py] at h;obtain⟨sz,hsz,k,hk,rfl⟩:=h;obtain⟨kk,q,rfl,h0,hlt,hq,hkl⟩:=mI hi hk;cases hx with|ref _ _ _ hA=>
  have hrun:(Instr.indexAt t (.pointer (some (at_ (K.blk st) off))) (.int kk q)).run E.P w= .ok (.pointer (some ((at_ (K.blk st) off).add (q.toNat*sz)))) w:=by simp[Instr.indexAt,run_underlying hu,asIntOf,Instr.sureAddr,h0,hlt,dD w hsz]
  refine⟨_,hrun,?_⟩;rw[addr_add,hq];exact .ref _ _ _ hA
 .rename_i n e cs off hu;simp only[iP,Py] at h;obtain⟨sz,hsz,k,hk,rfl⟩:=h;obtain⟨kk,q,rfl,h0,hlt,hq,hkl⟩:=mI hi hk;cases hx with|Q5 _ _ b o val hcell hrel=>
  have hrun:(Instr.indexAt t (.pointer (some (at_ b (o+off)))) (.int kk q)).run E.P w= .ok (.pointer (some ((at_ b (o+off)).add (q.toNat*sz)))) w:=by simp[Instr.indexAt,run_underlying hu,asIntOf,Instr.sureAddr,h0,hlt,dD w hsz]
  refine⟨_,hrun,?_⟩;rw[addr_add,hq,Qv];exact .Q5 _ _ b o val hcell hrel
 .simp at h
theorem F7 {t:TypeId}{x i v:V}{cx ci:Value}{T:Nat->Nat}(hx:Rel K T w x cx)(hi:Rel K T w i ci)(h:mg E.P t x i=some v):
 ∃c,(Instr.index t cx ci).run E.P w= .ok c w/\Rel K T w v c:=by
 unfold mg at h;split at h
 .rename_i n e cs hu;simp only[iP] at h;obtain⟨k,hk,sz,hsz,h⟩:=h;obtain⟨kk,q,rfl,h0,hlt,hq,hkl⟩:=mI hi hk;cases hx with|agg _ vs hl hr=>
  obtain⟨c,hc,hrel⟩:=mG (P:=E.P) hl hr h;exact⟨c,by simp[Instr.index,run_underlying hu,asIntOf,h0,hlt,dD w hsz,hq,hc],hrel⟩
 .rename_i s hu;simp only[iP,Py] at h;obtain⟨k,hk,b,hb,rfl⟩:=h;obtain⟨kk,q,rfl,h0,hlt,hq,hkl⟩:=mI hi hk;cases hx with|str _ ba hba=>
  have hsz:k<ba.size:=by rw[<-hba] at hkl;simpa using hkl
  have hbk:ba[k]=b:=by subst hba;have:=(Qo.1 hb).2;rw[<-this];rfl
  refine⟨.int .u8 b.toNat,?_,.int _ _⟩;have:ba[q.toNat]? =some b:=by rw[hq];simp[hsz,hbk]
  simp[Instr.index,run_underlying hu,asIntOf,h0,this]
 .simp at h
theorem zm {t:TypeId}{f o:Nat}{u:TypeId}{x v:V}{cx:Value}{T:Nat->Nat}(hx:Rel K T w x cx)(hf:WY E.P t f=some (o,u))(h:(match x with|.ref loc s off=>some (V.ref loc s (off+o))|.Q5 cs off=>some (.Q5 cs (off+o))|_=>none)=some v):
 ∃c,(Instr.fieldAt t cx f).run E.P w= .ok c w/\Rel K T w v c:=by
 obtain⟨fs,g,n,hu,hg,ho,hu',hn⟩:=zf hf;subst hu';have hrun:∀b q,(Instr.fieldAt t (.pointer (some (at_ b q))) f).run E.P w= .ok (.pointer (some (at_ b (q+o)))) w:=by intro b q;simp[Instr.fieldAt,run_underlying hu,hg,Instr.sureAddr,fieldPlace,dD w hn,addr_add,ho]
 cases x with
 |ref loc s off=>
  cases hx with|ref _ _ _ hA=>
  simp only[iE] at h;subst h;exact⟨_,hrun _ _,.ref _ _ _ hA⟩
 |Q5 cs off=>
  cases hx with|Q5 _ _ b o' val hcell hrel=>
  simp only[iE] at h;subst h;refine⟨_,hrun _ _,?_⟩;rw[Qv];exact .Q5 _ _ b o' val hcell hrel
 |_=>simp at h
theorem uD (h:au E B0 Y K w){t:TypeId}{x v:V}{cx:Value}(hx:Rel K Y.top w x cx)(hv:(match x with|.ref loc s off=>(Y.Rt loc s).bind fun cs=>TK E.P t cs off|.Q5 cs off=>TK E.P t cs off|_=>none)=some v):
 ∃c,(Instr.loadAt t cx).run E.P w= .ok c w/\Rel K Y.top w v c:=by
 cases x with
 |ref loc s off=>
  simp only[iP] at hv;obtain⟨cs,hcs,hv⟩:=hv;cases hx with|ref _ _ _ hA=>
  obtain⟨ho,_,_⟩:=h.jU hcs;obtain⟨_,bU,_⟩:=h.obj _ _ _ ho;by_cases hne:cs=[]
  .subst hne;obtain⟨c,h1,h2⟩:=ug (P:=E.P) (K:=K) (T:=Y.top) (w:=w) (cs:=[]) (b:=K.blk s) (o:=0) (fun _=>undef) (fun i hi=>absurd hi (PO i)) (fun i hi=>absurd hi (PO i)) hv;exact⟨c,by simpa [Instr.loadAt,Instr.sureAddr] using h1,h2⟩
  .obtain⟨_,vals,t',g1,g2,g3,g4⟩:=bU.2 hne;obtain⟨c,h1,h2⟩:=ug (P:=E.P) (K:=K) (T:=Y.top) (w:=w) (b:=K.blk s) (o:=0) (fun i=>vals.getD i undef) (fun i hi=>by have:i<vals.size:=(by omega);simp[World.cell?,g1,this]) g4 hv;exact⟨c,by simpa [Instr.loadAt,Instr.sureAddr] using h1,h2⟩
 |Q5 cs off=>
  cases hx with|Q5 _ _ b o val hcell hrel=>
  obtain⟨c,h1,h2⟩:=ug (P:=E.P) (K:=K) (T:=Y.top) (w:=w) (b:=b) (o:=o) val (fun i hi=>(hcell i hi).1) hrel hv;exact⟨c,by simpa [Instr.loadAt,Instr.sureAddr] using h1,h2⟩
 |_=>simp at hv
theorem eF {U:Type}{l r:List U}{i:Nat}(h:i<l.length)(d:U):(l++r).getD i d=l.getD i d:=by simp[List.getD,List.getElem?_append,h]
theorem eG {U:Type}{l r:List U}{i:Nat}(h:l.length<=i)(d:U):(l++r).getD i d=r.getD (i-l.length) d:=by simp[List.getD,List.getElem?_append,Nat.not_lt.2 h]
theorem uE {cs vs:List V}{off i:Nat}(h:off+vs.length<=cs.length):(Tm cs off vs).getD i Lv=if off<=i/\i<off+vs.length then vs.getD (i-off) Lv else cs.getD i Lv:=by
 unfold Tm;have hl:(cs.take off).length=off:=by simp;omega
 rw[Qc];by_cases h1:i<off
 .rw[eF (by omega),iA _ h1,if_neg (by omega)]
 .rw[eG (by omega),hl];by_cases h2:i-off<vs.length
  .rw[eF h2,if_pos (by omega)]
  .rw[eG (by omega),iW,if_neg (by omega)];congr 1;omega
theorem jW {cs vs:List V}{off:Nat}(h:off+vs.length<=cs.length):(Tm cs off vs).length=cs.length:=by unfold Tm;simp;omega
theorem F8 (h:au E B0 Y K w)(hB:B0<=w.heap.size){t:TypeId}{loc:Loc}{s off:Nat}{cs:List V}{x:V}{ca cx:Value}(ha:Rel K Y.top w (.ref loc s off) ca)(hx:Rel K Y.top w x cx)(hcs:Y.Rt loc s=some cs)(hsz:some x.cells.length=RL E.P t)(hle:off+x.cells.length<=cs.length)(hone:RP x.cells=true):
 ∃w',(Instr.storeAt t ca cx).run E.P w= .ok () w'/\Step E B0 new Y K w (Y.setObj loc s (.cells (Tm cs off x.cells))) K w':=by
 cases ha with|ref _ _ _ hA=>
 have hraw:SQ x=true:=by cases x<;>simp_all[SQ,RP,V.cells,oneCell]
 obtain⟨hcl,hcr⟩:=jq hx hraw;obtain⟨ho,_,_⟩:=h.jU hcs;obtain⟨_,bU,_⟩:=h.obj _ _ _ ho;have hone':∀v∈cx.cells.toList,v.oneCell'=true:=by
  intro v hv;obtain⟨i,hi,rfl⟩:=QW.1 hv;have hi':i<cx.cells.size:=by simpa using hi
  have:=hcr i (by omega);rw[mD hi'] at this;have h1:oneCell (x.cells.getD i Lv)=true:=by simp only[RP,P6] at hone;rw[cZ (by omega)];exact hone _ (Qy _)
  simpa using (y7 this h1).1
 have F9:(Instr.storeAt t (.pointer (some (at_ (K.blk s) off))) cx).run E.P w=(storeCells (at_ (K.blk s) off) cx.cells.toList).run E.P w:=by have:cx.cells.size=x.cells.length:=hcl.symm;simp[Instr.storeAt,Instr.sureAddr,storeVar,dD w hsz.symm,this]
 rw[F9];by_cases hne:cs=[]
 .subst hne;have h0:x.cells=[]:=by cases hx:x.cells with|nil=>rfl|cons a b=>simp[hx] at hle
  have h0':cx.cells.toList=[]:=by
   have:cx.cells.size=0:=by rw[<-hcl,h0];rfl
   simpa using this
  rw[h0',h0];have hoff:off=0:=by simpa [h0] using hle
  have hsp:Tm [] off []=([]:List V):=by simp[Tm]
  rw[hsp];have e:Y.setObj loc s (.cells [])=Y:=by
   unfold qd.setObj;have:upd Y.obj loc (some (s,Tk.cells []))=Y.obj:=by
    funext l;unfold upd;split
    .rename_i hl;rw[hl,ho]
    .rfl
   rw[this]
  rw[e];exact⟨w,rfl,.refl h⟩
 .obtain⟨hb0,vals,t',g1,g2,g3,g4⟩:=bU.2 hne;have hrun:=run_storeCells_at E.P (K.blk s) off t' cx.cells.toList 0 vals w g1 (by simp[<-hcl];omega) hone';refine⟨_,hrun,?_⟩;have hlt:=lt_of_heap g1;have hheap:=setRow_heap w (K.blk s) vals (vals.toList.take (off+0)++cx.cells.toList++vals.toList.drop (off+0+cx.cells.toList.length)).toArray t' (0,0) g1;have hsize:(vals.toList.take (off+0)++cx.cells.toList++vals.toList.drop (off+0+cx.cells.toList.length)).toArray.size=vals.size:=by simp[<-hcl];omega
  have Ga:Only (K.blk s) w (w.setRow (K.blk s) (vals.toList.take (off+0)++cx.cells.toList++vals.toList.drop (off+0+cx.cells.toList.length)).toArray):=by refine⟨rfl,rfl,rfl,by simp[World.setRow],fun k hk _=>?_⟩;simp[World.setRow,Array.getElem?_modify,Ne.symm hk]
  refine Step.setCells h hB ho hne g1 Ga hheap hsize (by intro h0;have:=jW hle;rw[h0] at this;exact hne (Qm this.symm)) (by rw[jW hle,hsize];exact g3) (fun e i hi=>?_);rw[jW hle] at hi;rw[uE hle];have oz:i<vals.size:=by omega
  have hval:(vals.toList.take (off+0)++cx.cells.toList++vals.toList.drop (off+0+cx.cells.toList.length)).toArray.getD i undef=if off<=i/\i<off+cx.cells.size then cx.cells.getD (i-off) undef else vals.getD i undef:=by
   have hl:(vals.toList.take (off+0)).length=off:=by simp;omega
   have harr:∀(l:List Value),l.toArray.getD i undef=l.getD i undef:=fun l=>by simp[Array.getD,List.getD];split<;>simp_all
   rw[harr,Qc];by_cases h1:i<off
   .rw[eF (by omega),iA _ (by omega),if_neg (by omega)];simp[List.getD,Array.getD,oz]
   .rw[eG (by omega),hl];by_cases h2:i-off<cx.cells.size
    .rw[eF (by simpa using h2),if_pos (by omega)];simp[List.getD,Array.getD,h2]
    .rw[eG (by simp;omega),iW,if_neg (by omega)];have:off+0+cx.cells.toList.length+(i-off-cx.cells.toList.length)=i:=(by simp;omega);rw[this];simp[List.getD,Array.getD,oz]
  rw[hval,<-hcl];by_cases hh:off<=i/\i<off+x.cells.length
  .rw[if_pos hh,if_pos hh];exact(hcr _ (by omega)).ext e
  .rw[if_neg hh,if_neg hh];exact(g4 i hi).ext e
end
section
variable {E:Env}{B0:Nat}{Y:qd}{K:Ra}{w:World}{new:Nat->Prop}{T:Nat->Nat}
theorem run_checkKey {kt:TypeId}{k:V}{ck:Value}(hk:Rel K T w k ck)(h:dw E.P kt k=true)(b:Bool)(n:Nat):(Instr.checkKey b (n+1) kt ck).run E.P w= .ok () w:=by
 unfold dw at h;split at h
 .rename_i hu;cases hk;simp[Instr.checkKey,run_underlying hu]
 .rename_i hu;cases hk;simp[Instr.checkKey,run_underlying hu]
 .rename_i hu;cases hk;simp[Instr.checkKey,run_underlying hu]
 .simp at h
theorem uF {kt:TypeId}{k a:V}{ck ca:Value}{d:TypeDesc}{r:Bool}(hd:E.P.underlying kt=some d)(hk:Rel K T w k ck)(ha:Rel K T w a ca)(hf:dw E.P kt k=true)(h:dP k a=some r):
 Instr.sameNow d ck ca=some r:=by
 unfold dw at hf;split at hf
 .rename_i hu;rw[hd] at hu;simp only[iE] at hu;subst hu;unfold dP at h;split at h<;>simp_all;cases hk;cases ha;obtain⟨rfl,rfl⟩:=h;simp[Instr.sameNow]
 .rename_i hu;rw[hd] at hu;simp only[iE] at hu;subst hu;unfold dP at h;split at h<;>simp_all;cases hk with|str _ b1 h1=>cases ha with|str _ b2 h2=>
  subst h;rw[<-h1,<-h2,uh];rfl
 .rename_i hu;rw[hd] at hu;simp only[iE] at hu;subst hu;unfold dP at h;split at h<;>simp_all;cases hk;cases ha;subst h;rfl
 .simp at hf
theorem uG {kt:TypeId}{k:V}{ck:Value}{d:TypeDesc}(hd:E.P.underlying kt=some d)(hk:Rel K T w k ck)(hf:dw E.P kt k=true):
 ∀(es:List MapEntry)(ks vs:List V)(i:Nat)(r:Option V),ks.length=es.length->vs.length=es.length->(∀j,j<es.length->Rel K T w (ks.getD j Lv) (es.getD j default).key)->
  eU k ks vs=some r->(r=none/\Instr.findNow d ck es i=some none)\/∃j,j<es.length/\r=some (vs.getD j Lv)/\Instr.findNow d ck es i=some (some (i+j,(es.getD j default).val))/\
   (∃b,dP k (ks.getD j Lv)=some b/\b=true)
 | [],[],[],i,r,_,_,_,h=>by simp only[eU,iE] at h;subst h;exact .inl ⟨rfl,rfl⟩|e::es,a::ks,v::vs,i,r,h1,h2,hr,h=>by
  simp only[eU,iP] at h;obtain⟨b,hb,h⟩:=h;have hs:=uF hd hk (hr 0 (by simp)) hf hb;simp only[List.getD_cons_zero] at hs;cases b with
  |true=>simp only[if_true,iE] at h;subst h;exact .inr ⟨0,by simp,rfl,by simp[Instr.findNow,hs],true,hb,rfl⟩|false=>
   simp only[PE,if_false] at h;rcases uG hd hk hf es ks vs (i+1) r (by simpa using h1) (by simpa using h2) (fun j hj=>by simpa using hr (j+1) (by simpa using hj)) h with ⟨e1,e2⟩| ⟨j,hj,e1,e2,e3⟩
   .exact .inl ⟨e1,by simp[Instr.findNow,hs,e2]⟩
   .refine .inr ⟨j+1,by simpa using hj,by simpa using e1,?_,by simpa using e3⟩;simp only[Instr.findNow,hs,e2,List.getD_cons_succ];rw[show i+1+j=i+(j+1) by omega]
 | [],_::_,_,_,_,h1,_,_,_=>by simp at h1| [],[],_::_,_,_,_,h2,_,_=>by simp at h2|_::_,[],_,_,_,h1,_,_,_=>by simp at h1|_::_,_::_,[],_,_,_,h2,_,_=>by simp at h2
theorem zn {kt:TypeId}{k:V}(h:dw E.P kt k=true):∃d,E.P.underlying kt=some d:=by unfold dw at h;split at h<;>first|exact⟨_,by assumption⟩|simp at h
theorem Gb (h:au E B0 Y K w){t:TypeId}{m k v:V}{cm ck:Value}{ok:Bool}(hm:Rel K Y.top w m cm)(hk:Rel K Y.top w k ck)(hv:iV E.P Y t m k ok=some v):
 ∃c,(Instr.lookup t cm ck ok).run E.P w= .ok c w/\Rel K Y.top w v c:=by
 simp only[iV,iP] at hv;obtain⟨⟨kt,et⟩,hmt,hv⟩:=hv;have hu:=ze hmt;split at hv
 .rename_i hf;simp only[iP,Py] at hv;obtain⟨⟨ks,vs⟩,hkv,r,hlk,⟨v',b⟩,hvb,hv⟩:=hv;obtain⟨d,hd⟩:=zn hf;have hes:∃es:Array MapEntry,(cm= .map none/\es= #[]\/∃b aG,cm= .map (some b)/\w.heap[b]? =some (.map es aG))/\ks.length=es.size/\vs.length=es.size/\
   (∀i,i<es.size->Rel K Y.top w (ks.getD i Lv) (es.getD i default).key)/\(∀i,i<es.size->Rel K Y.top w (vs.getD i Lv) (es.getD i default).val):=by
   split at hkv
   .cases hm;simp only[iE,iR] at hkv;obtain⟨rfl,rfl⟩:=hkv;exact⟨#[],.inl ⟨rfl,rfl⟩,rfl,rfl,fun i hi=>absurd hi (PO i),fun i hi=>absurd hi (PO i)⟩
   .rename_i loc s;unfold qd.aV at hkv;split at hkv
    .rename_i s' ks' vs' ho;split at hkv
     .rename_i hs;subst hs;simp only[iE,iR] at hkv;obtain⟨rfl,rfl⟩:=hkv;obtain⟨_,bU,_⟩:=h.obj _ _ _ ho;obtain⟨_,es,aG,g1,g2,g3,g4,g5⟩:=bU;cases hm with|RB _ _ hA=>
      exact⟨es,.inr ⟨_,_,rfl,g1⟩,g2,g3,g4,g5⟩
     .simp at hkv
    .simp at hkv
   .cases hm with|R3 _ _ b es aG hM hb h1 h2 h3 h4=>
    simp only[iE,iR] at hkv;obtain⟨rfl,rfl⟩:=hkv;exact⟨es,.inr ⟨_,_,rfl,hb⟩,h1,h2,h3,h4⟩
   .simp at hkv
  obtain⟨es,hrun,l1,l2,r1,r2⟩:=hes;have hck:=run_checkKey (E:=E) hk hf es.isEmpty 9999;have hgd:∀j,es.toList.getD j default=es.getD j default:=fun j=>by simp[List.getD,Array.getD];split<;>simp_all
  have hfind:=uG (E:=E) (K:=K) (T:=Y.top) (w:=w) hd hk hf es.toList ks vs 0 r (by simpa using l1) (by simpa using l2) (fun j hj=>by rw[hgd];exact r1 j (by simpa using hj)) hlk;have hend:∃c,(do
   let (v,ok')<-match<-Instr.findKey kt ck es.toList with
    |some (_,v)=>pure (v,true)|none=>pure (<-zeroValue et,false)
   pure (if ok then .tuple #[v,.bool ok'] else v):Sem Value).run E.P w= .ok c w/\Rel K Y.top w v c:=by
   have hfin:∀c,Rel K Y.top w v' c->Rel K Y.top w v (if ok then .tuple #[c,.bool b] else c):=by
    intro c hc;subst hv;cases ok with
    |true=>
     refine .Rn _ _ rfl (fun i hi=>?_)
     match i,hi with
     |0,_=>exact hc|1,_=>exact .bool b
    |false=>exact hc
   rcases hfind with ⟨rfl,e2⟩| ⟨j,hj,rfl,e2,_⟩
   .simp only[Py,iR] at hvb;obtain⟨z,hz,rfl,rfl⟩:=hvb;obtain⟨cz,hz1,hz2⟩:=jr w hz;exact⟨_,by simp[Instr.findKey,run_underlying hd,e2,hz1],hfin cz (hz2 _ _)⟩
   .simp only[iE,iR] at hvb;obtain⟨rfl,rfl⟩:=hvb;refine⟨if ok then .tuple #[(es.toList.getD j default).val,.bool true] else (es.toList.getD j default).val,by simp[Instr.findKey,run_underlying hd,e2],hfin _ ?_⟩;have:=r2 j (by simpa using hj)
    rwa[hgd]
  obtain⟨c,hc1,hc2⟩:=hend;refine⟨c,?_,hc2⟩;unfold Instr.lookup;rcases hrun with ⟨rfl,rfl⟩| ⟨b,aG,rfl,hb⟩
  .simp only[Sem.run_bind,run_underlying hu,Result.andThen_ok,Sem.run_pure,show (10000:Nat)=9999+1 from rfl,hck];simp only[Sem.run_bind] at hc1;exact hc1
  .have hg:(getObj b).run E.P w= .ok (.map es aG) w:=by simp[getObj,Sem.run,hb]
   simp only[Sem.run_bind,run_underlying hu,Result.andThen_ok,Sem.run_pure,show (10000:Nat)=9999+1 from rfl,hg,hck];simp only[Sem.run_bind] at hc1;exact hc1
 .simp at hv
theorem Gc {k a:V}(h:dP k a=some true):k=a:=by unfold dP at h;split at h<;>simp_all
theorem Gf {kt:TypeId}{k:V}{ck ca:Value}(hk:Rel K T w k ck)(ha:Rel K T w k ca)(hf:dw E.P kt k=true)(n:Nat):Instr.sameBits n ck ca=true:=by
 unfold dw at hf;split at hf
 .cases hk;cases ha;cases n<;>simp[Instr.sameBits]
 .cases hk with|str _ b1 h1=>cases ha with|str _ b2 h2=>
  have:(b1==b2)=true:=by rw[<-uh,h1,h2];simp
  cases n<;>simpa [Instr.sameBits] using this
 .cases hk;cases ha;cases n<;>simp[Instr.sameBits]
 .simp at hf
theorem zo {k v:V}:∀(ks vs ks' vs':List V),iU k v ks vs=some (ks',vs')->ks.length=vs.length->(eU k ks vs=some none/\ks'=ks++[k]/\vs'=vs++[v])\/∃j,j<ks.length/\ks'=ks.set j k/\vs'=vs.set j v/\eU k ks vs=some (some (vs.getD j Lv))/\ks.getD j Lv=k/\∀i,i<j->dP k (ks.getD i Lv)=some false
 | [],[],ks',vs',h,_=>by simp only[iU,iE,iR] at h;exact .inl ⟨rfl,h.1.symm,h.2.symm⟩|a::ks,b::vs,ks',vs',h,hl=>by
  simp only[iU,iP] at h;obtain⟨q,hq,h⟩:=h;cases q with
  |true=>simp only[if_true,iE,iR] at h;refine .inr ⟨0,by simp,by rw[<-h.1];simp,by rw[<-h.2];simp,by simp[eU,hq],by simpa using (Gc hq).symm,fun i hi=>absurd hi (PO i)⟩
  |false=>
   simp only[PE,if_false,Py,iR] at h;obtain⟨⟨x,y⟩,hxy,h1,h2⟩:=h;rcases zo ks vs x y hxy (by simpa using hl) with ⟨e1,e2,e3⟩| ⟨j,hj,e1,e2,e3,e4,e5⟩
   .exact .inl ⟨by simp[eU,hq,e1],by rw[<-h1,e2];rfl,by rw[<-h2,e3];rfl⟩
   .refine .inr ⟨j+1,by simpa using hj,by rw[<-h1,e1];rfl,by rw[<-h2,e2];rfl,by simp[eU,hq,e3],by simpa using e4,fun i hi=>?_⟩;cases i with
    |zero=>simpa using hq|succ i=>simpa using e5 i (by omega)
 | [],_::_,_,_,_,hl=>by simp at hl|_::_,[],_,_,_,hl=>by simp at hl
theorem zq {d:TypeDesc}{k:V}{ck:Value}{kt:TypeId}(hd:E.P.underlying kt=some d)(hk:Rel K T w k ck)(hf:dw E.P kt k=true):
 ∀(es:List MapEntry)(ks:List V)(i j:Nat),ks.length=es.length->(∀q,q<es.length->Rel K T w (ks.getD q Lv) (es.getD q default).key)->j<es.length->
  (∀q,q<j->dP k (ks.getD q Lv)=some false)->ks.getD j Lv=k->Instr.findNow d ck es i=some (some (i+j,(es.getD j default).val))
 |e::es,a::ks,i,0,h1,hr,hj,hn,he=>by
  have hr0:=hr 0 (by simp);simp only[List.getD_cons_zero] at he hr0;subst he;have hs:dP a a=some true:=by unfold dw at hf;split at hf<;>first| (simp[dP];done)| (simp at hf;done)
  have:=uF hd hk hr0 hf hs;simp[Instr.findNow,this]
 |e::es,a::ks,i,j+1,h1,hr,hj,hn,he=>by have h0:=hn 0 (by omega);simp only[List.getD_cons_zero] at h0;have hr0:=hr 0 (by simp);simp only[List.getD_cons_zero] at hr0;have:=uF hd hk hr0 hf h0;have ih:=zq hd hk hf es ks (i+1) j (by simpa using h1) (fun q hq=>by simpa using hr (q+1) (by simpa using hq)) (by simpa using hj) (fun q hq=>by simpa using hn (q+1) (by omega)) (by simpa using he);simp only[Instr.findNow,this,ih,List.getD_cons_succ];rw[show i+1+j=i+(j+1) by omega]
 | [],_,_,_,_,_,hj,_,_=>by simp at hj|_::_,[],_,_,h1,_,_,_,_=>by simp at h1
theorem zu {w:World}{b:Nat}{o o':Obj}(_:w.heap[b]? =some o):Only b w {w with heap:=w.heap.setIfInBounds b o'}:=by refine⟨rfl,rfl,rfl,by simp,fun k hk _=>?_⟩;simp[Ne.symm hk]
theorem zw (h:au E B0 Y K w)(hB:B0<=w.heap.size){t:TypeId}{m k v:V}{cm ck cv:Value}{Y':qd}(hm:Rel K Y.top w m cm)(hk:Rel K Y.top w k ck)(hv:Rel K Y.top w v cv)(hu:fO E.P Y t m k v=some Y'):∃w',(Instr.mapUpdate t cm ck cv).run E.P w= .ok () w'/\Step E B0 new Y K w Y' K w'/\Y'.top=Y.top:=by
 simp only[fO,iP] at hu;obtain⟨⟨kt,et⟩,hmt,hu⟩:=hu;have hun:=ze hmt;split at hu
 .rename_i hf;split at hu
  .rename_i loc s;simp only[iP,Py] at hu;obtain⟨⟨ks,vs⟩,hmp,⟨ks',vs'⟩,hst,rfl⟩:=hu;unfold qd.aV at hmp;split at hmp
   .rename_i s' mJ mK ho;split at hmp
    .rename_i hs;subst hs;simp only[iE,iR] at hmp;obtain⟨rfl,rfl⟩:=hmp;obtain⟨_,bU,_⟩:=h.obj _ _ _ ho;obtain⟨hb0,es,aG,g1,g2,g3,g4,g5⟩:=bU;cases hm with|RB _ _ hA=>
     obtain⟨d,hd⟩:=zn hf;have hck:=run_checkKey (E:=E) hk hf false 9999;have hgd:∀j,es.toList.getD j default=es.getD j default:=fun j=>by simp[List.getD,Array.getD];split<;>simp_all
     have hst':iU k v mJ mK=some (ks',vs'):=hst;rcases zo _ _ _ _ hst' (by omega) with ⟨e1,rfl,rfl⟩| ⟨j,hj,rfl,rfl,e1,e2,e3⟩
     .have hfind:=uG (E:=E) (K:=K) (T:=Y.top) (w:=w) hd hk hf es.toList mJ mK 0 none (by simpa using g2) (by simpa using g3) (fun j hj=>by rw[hgd];exact g4 j (by simpa using hj)) e1;have hfn:Instr.findNow d ck es.toList 0=some none:=by
       rcases hfind with ⟨_,e⟩| ⟨_,_,e,_⟩
       .exact e
       .cases e
      refine⟨{w with heap:=w.heap.setIfInBounds (K.blk s') (.map (es.push {key:=ck,val:=cv,born:=aG}) (aG+1))},?_,?_,rfl⟩
      .unfold Instr.mapUpdate;simp only[Sem.run_bind,run_underlying hun,Result.andThen_ok,show (10000:Nat)=9999+1 from rfl];simp[getObj,setObj,Sem.run,g1,hck,Instr.findKey,run_underlying hd,hfn]
      .have hlt:=lt_of_heap g1;refine Step.yZ h hB ho g1 (zu g1) (es':=es.push {key:=ck,val:=cv,born:=aG}) (qH:=aG+1) (by simp[hlt]) (by simp[g2]) (by simp[g3]) (fun e=>?_);constructor
       .intro i hi;by_cases hi':i<es.size
        .rw[eF (by omega)];have:(es.push {key:=ck,val:=cv,born:=aG}).getD i default=es.getD i default:=(by simp[Array.getD,hi',Array.getElem_push,Nat.lt_succ_of_lt hi']);rw[this];exact(g4 i hi').ext e
        .have:i=es.size:=(by simp at hi;omega);subst this;rw[eG (by omega),g2];simp;exact hk.ext e
       .intro i hi;by_cases hi':i<es.size
        .rw[eF (by omega)];have:(es.push {key:=ck,val:=cv,born:=aG}).getD i default=es.getD i default:=(by simp[Array.getD,hi',Array.getElem_push,Nat.lt_succ_of_lt hi']);rw[this];exact(g5 i hi').ext e
        .have:i=es.size:=(by simp at hi;omega);subst this;rw[eG (by omega),g3];simp;exact hv.ext e
     .have hj':j<es.size:=(by omega);have hfn:=zq (E:=E) (K:=K) (T:=Y.top) (w:=w) hd hk hf es.toList mJ 0 j (by simpa using g2) (fun q hq=>by rw[hgd];exact g4 q (by simpa using hq)) (by simpa using hj') e3 e2;rw[hgd] at hfn;have hsb:Instr.sameBits 10000 (es.getD j default).key ck=true:=(by have:=g4 j hj';rw[e2] at this;exact Gf (E:=E) this hk hf _);have hgj:es.getD j default=es[j]:=(by simp[Array.getD,hj']);refine⟨{w with heap:=w.heap.setIfInBounds (K.blk s') (.map (es.modify j fun e=>{e with key:=ck,val:=cv}) aG)},?_,?_,rfl⟩
      .unfold Instr.mapUpdate;simp only[Sem.run_bind,run_underlying hun,Result.andThen_ok,show (10000:Nat)=9999+1 from rfl];rw[hgj] at hsb hfn;simp[getObj,setObj,Sem.run,g1,hck,Instr.findKey,run_underlying hd,hfn,hj',Instr.keyThatStays,hsb]
      .have hlt:=lt_of_heap g1;refine Step.yZ h hB ho g1 (zu g1) (es':=es.modify j fun e=>{e with key:=ck,val:=cv}) (qH:=aG) (by simp[hlt]) (by simp[g2]) (by simp[g3]) (fun e=>?_);have hmod:∀i,i<es.size->(es.modify j fun e=>{e with key:=ck,val:=cv}).getD i default=if j=i then {es.getD i default with key:=ck,val:=cv} else es.getD i default:=(by intro i hi;simp only[Array.getD,Array.size_modify,hi,dif_pos];show (es.modify j _)[i]'_=_;rw[Array.getElem_modify];split<;>simp_all)
       constructor
       .intro i hi;have hi':i<es.size:=(by simpa using hi);rw[hmod i hi'];by_cases hji:j=i
        .subst hji;have:(mJ.set j k).getD j Lv=k:=(by simp[List.getD,hj]);rw[this];simp;exact hk.ext e
        .have:(mJ.set j k).getD i Lv=mJ.getD i Lv:=(by simp[List.getD,hji]);rw[this];simp only[hji,if_false];exact(g4 i hi').ext e
       .intro i hi;have hi':i<es.size:=(by simpa using hi);rw[hmod i hi'];by_cases hji:j=i
        .subst hji;have:(mK.set j v).getD j Lv=v:=(by simp[List.getD,show j<mK.length by omega]);rw[this];simp;exact hv.ext e
        .have:(mK.set j v).getD i Lv=mK.getD i Lv:=(by simp[List.getD,hji]);rw[this];simp only[hji,if_false];exact(g5 i hi').ext e
    .simp at hmp
   .simp at hmp
  .simp at hu
 .simp at hu
end
section
variable {E:Env}{B0:Nat}{Y:qd}{K:Ra}{w:World}{new:Nat->Prop}{T:Nat->Nat}
theorem zx (off:Nat):∀(l:List (Value×Nat))(cs:Array Value),(l.foldl (fun cs (c,j)=>cs.setIfInBounds (off+j) c) cs).size=cs.size
 | [],_=>rfl|x::l,cs=>by rw[List.foldl_cons,zx off l];simp
theorem zy (off:Nat):∀(vs:List Value)(k:Nat)(cs:Array Value),off+k+vs.length<=cs.size->∀i,i<cs.size->((vs.zipIdx k).foldl (fun cs (c,j)=>cs.setIfInBounds (off+j) c) cs).getD i undef=if off+k<=i/\i<off+k+vs.length then vs.getD (i-(off+k)) undef else cs.getD i undef
 | [],k,cs,_,i,_=>by simp;omega|v::vs,k,cs,h,i,hi=>by
  simp only[List.zipIdx_cons,List.foldl_cons];rw[zy off vs (k+1) _ (by simp at h⊢;omega) i (by simpa using hi)];have hs:(cs.setIfInBounds (off+k) v).getD i undef=if off+k=i then v else cs.getD i undef:=by simp only[Array.getD,Array.size_setIfInBounds,hi,dif_pos];show (cs.setIfInBounds (off+k) v)[i]'_=_;rw[Array.getElem_setIfInBounds];split<;>rfl
  rw[hs];simp only[List.length_cons] at h⊢;by_cases h1:off+k=i
  .subst h1;rw[if_neg (by omega),if_pos rfl,if_pos (by omega)];simp
  .by_cases h2:off+(k+1)<=i/\i<off+(k+1)+vs.length
   .rw[if_pos h2,if_pos (by omega)];have:i-(off+k)=(i-(off+(k+1)))+1:=(by omega);rw[this,List.getD_cons_succ]
   .rw[if_neg h2,if_neg h1,if_neg (by omega)]
theorem mM (a:Array Value)(i:Nat):a.toList.getD i undef=a.getD i undef:=by simp[List.getD,Array.getD];split<;>simp_all
def mO (K:Ra)(T:Nat->Nat)(w:World):List (Nat×V)->List (Nat×Value)->Prop
 | [],[]=>True| (i,v)::a,(j,c)::b=>i=j/\Rel K T w v c/\mO K T w a b|_,_=>False
theorem oC {place:Nat->Option (Nat×Nat)}{place':Nat->Option (Nat×Nat)}(hp:∀i x,place i=some x->place' i=some x):
 ∀(parts:List (Nat×V))(parts':List (Nat×Value))(cs cs':List V)(vs:Array Value),mO K T w parts parts'->ou K T w cs vs->fM place cs parts=some cs'->
  ∃vs',Instr.fill place' vs parts'=some vs'/\ou K T w cs' vs'/\vs'.size=vs.size
 | [],[],cs,cs',vs,_,hr,h=>by simp only[fM,iE] at h;subst h;exact⟨vs,rfl,hr,rfl⟩| (i,v)::ps,(j,c)::ps',cs,cs',vs,hpp,hr,h=>by
   obtain⟨rfl,hv,hpp⟩:=hpp;unfold fM at h;cases hpl:place i with
   |none=>simp[hpl] at h|some x=>
    obtain⟨off,size⟩:=x;simp only[hpl] at h;split at h
    .rename_i hc;obtain⟨h1,h2,h3⟩:=hc;obtain⟨hl,hcr⟩:=jq hv h3;have hsz:(c.cells.zipIdx.foldl (fun cs (c,j)=>cs.setIfInBounds (off+j) c) vs).size=vs.size:=(by rw[<-Array.foldl_toList,Array.toList_zipIdx];exact zx off _ _);have hget:∀i,i<vs.size->(c.cells.zipIdx.foldl (fun cs (c,j)=>cs.setIfInBounds (off+j) c) vs).getD i undef=if off<=i/\i<off+c.cells.size then c.cells.getD (i-off) undef else vs.getD i undef:=by
      intro i hi;rw[<-Array.foldl_toList,Array.toList_zipIdx];have:=zy off c.cells.toList 0 vs (by simp;have:=hr.1;omega) i hi;rw[this];simp only[Nat.add_zero,Array.length_toList];split
      .exact mM _ _
      .rfl
     have hrl:ou K T w (Tm cs off v.cells) (c.cells.zipIdx.foldl (fun cs (c,j)=>cs.setIfInBounds (off+j) c) vs):=by
      refine⟨by rw[jW (by omega),hsz];exact hr.1,fun i hi=>?_⟩;rw[jW (by omega)] at hi;rw[uE (by omega),hget i (by have:=hr.1;omega),<-hl];by_cases hh:off<=i/\i<off+v.cells.length
      .rw[if_pos hh,if_pos hh];exact hcr _ (by omega)
      .rw[if_neg hh,if_neg hh];exact hr.2 i hi
     obtain⟨vs',g1,g2,g3⟩:=oC hp ps ps' _ _ _ hpp hrl h;refine⟨vs',?_,g2,by rw[g3,hsz]⟩;unfold Instr.fill;simp only[hp _ _ hpl];have hcond:¬((decide (c.cells.size≠size)||decide (off+c.cells.size>vs.size))=true):=(by have:=hr.1;simp;omega);rw[if_neg hcond];exact g1
    .simp at h
 | [],_::_,_,_,_,h,_,_=>h.elim|_::_,[],_,_,_,h,_,_=>h.elim
theorem qJ {fr:Fr}{a:Act}(h:au E B0 Y K w)(hf:bH K Y.top w fr a.tmps):∀(l:List (Nat×Operand)),mO K Y.top w (l.map fun (i,x)=>(i,fr.ev E x)) (l.map fun (i,x)=>(i,a.eval x))
 | []=>trivial| (_,x)::l=>⟨rfl,fV h hf x,qJ h hf l⟩
theorem run_places:∀(l:List Field),l.all (fun f=>(RL E.P f.type).isSome)=true->(l.mapM (fun f=>do pure (f.offset,<-Go.sizeOf f.type):Field->Sem (Nat×Nat))).run E.P w= .ok (l.map fun f=>(f.offset,(RL E.P f.type).getD 0)) w
 | [],_=>rfl|f::l,h=>by simp only[List.all_cons,Pz] at h;obtain⟨n,hn⟩:=Option.isSome_iff_exists.1 h.1;have ih:=run_places l h.2;simp only[PW,Sem.run_bind,dD w hn,Result.andThen_ok,Sem.run_pure,ih,hn,PU,Option.getD_some]
theorem Gg {t:TypeId}{pl:Nat->Option (Nat×Nat)}{z:V}{parts:List (Nat×V)}{parts':Array (Nat×Value)}{cs:List V}(hpl:aeG E t=some pl)(hz:Uc E.P t=some z)(hp:mO K T w parts parts'.toList)(hraw:SQ z=true)(h:fM pl z.cells parts=some cs):∃c,(Instr.build t parts').run E.P w= .ok c w/\Rel K T w (.agg cs) c:=by
 obtain⟨cz,hz1,hz2⟩:=jr w hz;have hrz:ou K T w z.cells cz.cells:=jq (hz2 K T) hraw;unfold aeG at hpl;split at hpl
 .rename_i fs hu;split at hpl
  .rename_i hall;simp only[iE] at hpl;subst hpl;obtain⟨vs',g1,g2,_⟩:=oC (K:=K) (T:=T) (w:=w) (place':=fun i=>(fs.map fun f=>(f.offset,(RL E.P f.type).getD 0))[i]?) (fun i x hx=>by simp only[iP,Py] at hx;obtain⟨f,hf,n,hn,rfl⟩:=hx;simp[hf,hn]) parts parts'.toList _ _ _ hp hrz h;refine⟨.agg vs',?_,.agg _ _ g2.1 g2.2⟩;have hm:(fs.mapM (fun f=>do pure (f.offset,<-Go.sizeOf f.type):Field->Sem (Nat×Nat))).run E.P w= .ok (fs.map fun f=>(f.offset,(RL E.P f.type).getD 0)) w:=by rw[Array.mapM_eq_mapM_toList,Sem.run_map,run_places fs.toList hall];simp only[Result.andThen_ok];congr 1;apply Array.ext';simp
   simp only[Instr.build,Sem.run_bind,hz1,Result.andThen_ok,run_underlying hu];rw[hm];simp only[Result.andThen_ok];rw[g1];rfl
  .simp at hpl
 .rename_i n e hu;simp only[Py] at hpl;obtain⟨sz,hsz,rfl⟩:=hpl;obtain⟨vs',g1,g2,_⟩:=oC (K:=K) (T:=T) (w:=w) (place':=fun i=>some (i*sz,sz)) (fun i x hx=>hx) parts parts'.toList _ _ _ hp hrz h;refine⟨.agg vs',?_,.agg _ _ g2.1 g2.2⟩;simp only[Instr.build,Sem.run_bind,hz1,Result.andThen_ok,run_underlying hu,dD w hsz];rw[g1];rfl
 .simp at hpl
theorem qK (z:List V)(sz:Nat)(hz:z.length=sz)(h0:0<sz):∀(n i:Nat),i<n*sz->(List.replicate n z).flatten.getD i Lv=z.getD (i% sz) Lv
 |0,i,h=>by simp at h|n+1,i,h=>by
  simp only[List.replicate_succ,List.flatten_cons];by_cases hi:i<sz
  .rw[eF (by omega),QO hi]
  .have hs:(n+1)*sz=n*sz+sz:=Qq n sz;rw[eG (by omega),hz,qK z sz hz h0 n (i-sz) (by omega)];congr 1;exact(Nat.mod_eq_sub_mod (by omega)).symm
theorem qL {z:V}{cz:Value}{sz:Nat}(hz:Rel K T w z cz)(hraw:SQ z=true)(hsz:z.cells.length=sz)(n:Nat):
 ou K T w (List.replicate n z.cells).flatten ((Array.range (n*sz)).map fun i=>cz.cells[i% cz.cells.size]!):=by
 obtain⟨h1,h2⟩:=jq hz hraw;refine⟨by simp[hsz],fun i hi=>?_⟩;have hi':i<n*sz:=by simpa [hsz] using hi
 have h0:0<sz:=by
  rcases Nat.eq_zero_or_pos sz with h|h
  .subst h;simp at hi'
  .exact h
 rw[qK z.cells sz hsz h0 n i hi'];have hm:i% sz<cz.cells.size:=by rw[<-h1,hsz];exact Nat.mod_lt _ h0
 have he:((Array.range (n*sz)).map fun i=>cz.cells[i% cz.cells.size]!).getD i undef=cz.cells.getD (i% sz) undef:=by
  have:cz.cells.size=sz:=by omega
  simp[Array.getD,hi',this,getElem!_pos,Nat.mod_lt _ h0]
 rw[he];exact h2 _ (by omega)
theorem uH (v:V):(er v).cells.length=v.cells.length:=by
 cases v<;>simp[er,V.cells]
theorem oD {v:V}{c:Value}(h:Rel K T w v c):Rel K T w (aN v) c:=by
 cases h with
 |aW c a ha hc=>exact .aW .sh a (fun h=>by cases h) trivial
 |tX c l b o n cap val h1 h2 h3 h4 h5=>exact .tX .sh l b o n cap val h1 h2 h3 h4 trivial|_=>first|exact .int _ _|exact .bool _|exact .str _ _ (by assumption)|exact .Tf|exact .Ta|exact .SI|exact .SB| (constructor<;>assumption)
theorem zA {v:V}{c:Value}(h:Rel K T w v c):Rel K T w (er v) c:=by
 cases h with
 |agg cs vs hl h=>
  refine .agg _ vs (by simpa using hl) (fun i hi=>?_);have hi':i<cs.length:=by simpa using hi
  have:(cs.map aN).getD i Lv=aN (cs.getD i Lv):=by simp[List.getD,hi']
  rw[this];exact oD (h i hi')
 |aW c a ha hc=>exact .aW .sh a (fun h=>by cases h) trivial
 |tX c l b o n cap val h1 h2 h3 h4 h5=>exact .tX .sh l b o n cap val h1 h2 h3 h4 trivial|_=>first|exact .int _ _|exact .bool _|exact .str _ _ (by assumption)|exact .Tf|exact .Ta|exact .SI|exact .SB| (constructor<;>assumption)
theorem zB {v:V}{j:Nat}{c:Value}(hj:j<v.cells.length)(h:Rel K T w (v.cells.getD j Lv) c):Rel K T w ((er v).cells.getD j Lv) c:=by
 cases v with
 |agg cs=>
  have:((er (.agg cs)).cells).getD j Lv=aN (cs.getD j Lv):=by have hj':j<cs.length:=hj;simp[er,V.cells,List.getD,hj']
  rw[this];exact oD h
 |tX c l=>
  have hj0:j=0:=by simp[V.cells] at hj;exact hj
  subst hj0;exact oD h
 |_=>exact h
theorem Gh {v:V}(h:SQ v=true):SQ (er v)=true:=by cases v<;>first|exact h|rfl
theorem Gi {c:Cap}{l:List V}{x:Value}(h:Rel K T w (.tX c l) x):Rel K T w (.tX c (l.map er)) x:=by
 cases h with
 |aW _ a ha hc=>exact .aW c a ha hc|tX _ _ b o n cap val hle hn hcell hrel hc=>
  have hg:∀i,i<l.length->(l.map er).getD i Lv=er (l.getD i Lv):=fun i hi=>by simp[List.getD,hi]
  have key:Rel K T w (.tX c (l.map er)) (.slice (some (at_ b o)) (l.map er).length cap):=by
   refine .tX c _ b o n cap val (by simpa using hle) (fun i hi=>?_) (fun i j hi hj=>hcell i j (by simpa using hi) hj) (fun i j hi hj=>?_) (by simpa using hc)
   .rw[hg i (by simpa using hi),uH];exact hn i (by simpa using hi)
   .rw[hg i (by simpa using hi)];exact zB (by rw[hn i (by simpa using hi)];exact hj) (hrel i j (by simpa using hi) hj)
  simpa using key
theorem Gj (h:au E B0 Y K w)(hB:B0<=w.heap.size){t:TypeId}{len:Nat}{parts:List (Nat×V)}{parts':Array (Nat×Value)}{v:V}(hp:mO K Y.top w parts parts'.toList)(hv:aaJ E t len parts=some v):Done E B0 new Y K w (Instr.buildSlice t len parts') v Y:=by
 simp only[aaJ,iP] at hv;obtain⟨e,he,sz,hsz,ag,hag,z,hz,hv⟩:=hv;split at hv
 .rename_i hc;obtain⟨c1,c2,c3,c4⟩:=hc;simp only[iP] at hv;obtain⟨cs,hcs,hv⟩:=hv;split at hv
  .rename_i hone;simp only[iE] at hv;subst hv;obtain⟨cz,hz1,hz2⟩:=jr w hz;have hraw:SQ z=true:=mE hz;have hrz:=qL (hz2 K Y.top) hraw c2 len;obtain⟨vs',g1,g2,g3⟩:=oC (K:=K) (T:=Y.top) (w:=w) (place':=fun i=>some (i*sz,sz)) (fun i x hx=>by
    split at hx
    .exact hx
    .simp at hx) parts parts'.toList _ _ _ hp hrz hcs
   have hlen:cs.length=len*sz:=by rw[g2.1,g3];simp
   have hu:=oo he;have hrun:(Instr.buildSlice t len parts').run E.P w= .ok (.slice (some ⟨w.heap.size,0,none⟩) len len) (w.alloc (.cells vs' e)):=by
    have hn:¬2^24<len*sz:=(by omega);by_cases h0:len*sz=0
    .have hl0:len=0:=by
      rcases Nat.mul_eq_zero.1 h0 with h|h
      .exact h
      .omega
     subst hl0;simp only[Instr.buildSlice,Sem.run_bind,run_underlying hu,Result.andThen_ok,dD w hsz,Nat.zero_mul];have g1':Instr.fill (fun i=>some (i*sz,sz)) #[] parts'.toList=some vs':=(by have e0:((Array.range (0*sz)).map fun i=>cz.cells[i% cz.cells.size]!)= #[]:=(by simp[Array.range_zero']);rw[<-e0];exact g1);have e1:∀f:Nat->Value,(Array.range 0).map f= #[]:=fun f=>by simp[Array.range_zero']
     simp only[if_true,e1,g1'];simp[newRow]
    .simp only[Instr.buildSlice,Sem.run_bind,run_underlying hu,Result.andThen_ok,dD w hsz,hn,gt_iff_lt,if_false,h0,hz1,Sem.run_pure];rw[g1];simp[newRow]
   have hst:=Step.yX (new:=new) h hB vs' e (0,0);refine⟨_,_,_,hrun,Gi ?_,hst⟩;have hext:=hst.ext;refine ow (cap:=len) (w:=w.alloc (.cells vs' e)) (fun j=>vs'.getD j undef) (fun hf=>?_) (by omega) (fun _=>hone) (fun j hj=>⟨?_,?_⟩) (fun j hj=>(g2.2 j (by omega)).ext hext) (mF _) (by simp[fT])
   .subst hf;simpa using c4
   .have:=oh (w:=w) (vals:=vs') (t:=e) (fz:=(0,0)) (i:=j) (by have:=g2.1;omega);simpa using this
   .right;exact⟨rfl,by have:=g2.1;omega⟩
  .simp at hv
 .simp at hv
end
section
variable {E:Env}{B0:Nat}{Y:qd}{K:Ra}{w:World}{new:Nat->Prop}{T:Nat->Nat}
def Src (P:Program)(w:World)(sz n:Nat)(cx:Value)(cells:List Value):Prop:=
 cells.length=n*sz/\∀w',w'.heap=w.heap->(Builtin.firstCells sz n cx).run P w'= .ok cells.toArray w'
def cB (K:Ra)(T:Nat->Nat)(w:World)(sz:Nat)(l:List V)(cells:List Value):Prop:=
 ∀i,i<l.length->(l.getD i Lv).cells.length=sz/\∀j,j<sz->Rel K T w ((l.getD i Lv).cells.getD j Lv) (cells.getD (i*sz+j) undef)
theorem cB.ext {K' T' w'}{sz:Nat}{l:List V}{cells:List Value}(h:cB K T w sz l cells)(e:Ext K T w K' T' w'):cB K' T' w' sz l cells:=
 fun i hi=>⟨(h i hi).1,fun j hj=>((h i hi).2 j hj).ext e⟩
theorem mul_lt {i j n sz:Nat}(hi:i<n)(hj:j<sz):i*sz+j<n*sz:=by have:=Qp sz (Nat.succ_le_of_lt hi);rw[Qq] at this;omega
theorem zC {f:Nat->Nat->Value}{n sz i j:Nat}(hi:i<n)(hj:j<sz):((List.range (n*sz)).map fun q=>f (q/sz) (q% sz)).getD (i*sz+j) undef=f i j:=by
 have hlt:=mul_lt hi hj;have h1:(i*sz+j)/sz=i:=by rw[QD,Nat.mul_add_div (by omega),Nat.div_eq_of_lt hj,Nat.add_zero]
 have h2:(i*sz+j)% sz=j:=by rw[QD,Nat.mul_add_mod,QO hj]
 simp[List.getD,hlt,h1,h2]
theorem qM {P:Program}(w:World)(sz:Nat)(a:Option Addr):(Builtin.firstCells sz 0 (.slice a 0 0)).run P w= .ok #[] w:=by
 cases a with
 |none=>simp[Builtin.firstCells]|some a=>simpa using run_firstCells_some (P:=P) w sz 0 a 0 0 [] (by simp) (fun j v hj=>by simp at hj)
theorem Gl {c:Cap}{l:List V}{cx:Value}{sz:Nat}(h:Rel K T w (.tX c l) cx)(hs:dH sz l=true):∃cells,Src E.P w sz l.length cx cells/\cB K T w sz l cells:=by
 cases h with
 |aW _ a ha hc=>exact⟨[],⟨by simp,fun w' _=>qM w' sz a⟩,fun i hi=>absurd hi (PO i)⟩
 |tX _ _ b o n cap val hle hn hcell hrel hc=>
  by_cases h0:l=[]
  .subst h0;refine⟨[],⟨by simp,fun w' hw=>?_⟩,fun i hi=>absurd hi (PO i)⟩;have:=run_firstCells_some (P:=E.P) w' sz 0 (at_ b o) 0 cap [] (by simp) (fun j v hj=>by simp at hj);simpa using this
  .have hpos:0<l.length:=QH.2 h0;have Gm:n=sz:=uy hs hn hpos;subst Gm;refine⟨(List.range (l.length*n)).map fun q=>val (q/n) (q% n),⟨by simp,fun w' hw=>?_⟩,fun i hi=>⟨hn i hi,fun j hj=>?_⟩⟩
   .refine run_firstCells_some (P:=E.P) w' n l.length (at_ b o) l.length cap _ (by simp) (fun j v hj=>?_);have hjl:j<l.length*n:=(by have:=(Qo.1 hj).1;simpa using this);have hn0:0<n:=by
     rcases Nat.eq_zero_or_pos n with h|h
     .subst h;simp at hjl
     .exact h
    simp[hjl] at hj;subst hj;rw[addr_add];have:=(hcell (j/n) (j% n) (Nat.div_lt_of_lt_mul (by rw[QD];exact hjl)) (Nat.mod_lt _ hn0)).1;rw[cell_of_heap (w:=w) (by rw[hw])]
    rwa[Qv,QD,Nat.div_add_mod] at this
   .rw[zC hi hj];exact hrel i j hi hj
theorem Gn {s:List UInt8}{cx:Value}{e:TypeId}(h:Rel K T w (.str s) cx):∃cells,Src E.P w 1 (s.map iT).length cx cells/\cB K T w 1 (s.map iT) cells:=by
 let _:=e
 cases h with|str _ b hb=>
 have hl:s.length=b.size:=by rw[<-hb];simp
 refine⟨(b.data.map fun x=>Value.int .u8 x.toNat).toList,⟨by simp[hl],fun w' _=>?_⟩,fun i hi=>?_⟩
 .simp only[Builtin.firstCells,Sem.run_pure];congr 1;have:(b.extract 0 (s.map iT).length)=b:=by rw[PY,hl];simp
  rw[this]
 .have hi':i<s.length:=by simpa using hi
  have hg:(s.map iT).getD i Lv=iT s[i]:=by simp[List.getD,hi']
  rw[hg];refine⟨rfl,fun j hj=>?_⟩;obtain rfl:j=0:=by omega
  have hib:i<b.size:=by omega
  have hv:((b.data.map fun x=>Value.int .u8 x.toNat).toList).getD (i*1+0) undef= .int .u8 s[i].toNat:=by
   have e1:s[i]=b.data[i]'(by simpa using hib):=by subst hb;simp
   simp[List.getD,hib,e1]
  rw[hv];exact .int _ _
theorem Gp (h:au E B0 Y K w){loc:Loc}{s off len cap sz:Nat}{ag kX:Bool}{cs:List V}{cx:Value}(hx:Rel K Y.top w (.vw loc s off len cap sz kX) cx)(hcs:Y.Rt loc s=some cs)(hle:off+len*sz<=cs.length)(hag:(ag||sz==1)=true)(hone:RP cs=true\/ag=true):
 ∃cells,Src E.P w sz ((chunks ag sz len (cs.drop off)).map er).length cx cells/\cB K Y.top w sz ((chunks ag sz len (cs.drop off)).map er) cells:=by
 obtain⟨ho,hA,hks⟩:=h.jU hcs;obtain⟨_,bU,_⟩:=h.obj _ _ _ ho;have hlen:((chunks ag sz len (cs.drop off)).map er).length=len:=by rw[PY,iD]
 rw[hlen];cases hx with
 |dQ=>exact⟨[],⟨by simp,fun w' _=>by simp[Builtin.firstCells]⟩,fun i hi=>by rw[hlen] at hi;omega⟩
 |vw _ _ _ _ _ _ _ aR hA' hcc hlc hsz=>
  by_cases h0:len*sz=0
  .refine⟨[],⟨by simp[h0],fun w' _=>?_⟩,fun i hi=>?_⟩
   .have:=run_firstCells_some (P:=E.P) w' sz len (at_ (K.blk s) off) len aR [] (by simp[h0]) (fun j v hj=>by simp at hj);simpa using this
   .rw[hlen] at hi;have hsz0:sz=0:=by
     rcases Nat.mul_eq_zero.1 h0 with h|h
     .omega
     .exact h
    subst hsz0;have hag':ag=true:=(by simpa using hag);subst hag';refine⟨?_,fun j hj=>absurd hj (PO j)⟩;have hi':i< (chunks true 0 len (cs.drop off)).length:=(by rw[iD];exact hi);have:((chunks true 0 len (cs.drop off)).map er).getD i Lv=er ((chunks true 0 len (cs.drop off)).getD i Lv):=(by simp[List.getD,hi']);rw[this,uH,uz _ _ _ _ _ hi];simp[V.cells]
  .obtain⟨_,vals,t,g1,g2,g3,g4⟩:=bU.2 (by rintro rfl;simp at hle;omega);refine⟨(List.range (len*sz)).map fun q=>vals.getD (off+q) undef,⟨by simp,fun w' hw=>?_⟩,fun i hi=>?_⟩
   .refine run_firstCells_some (P:=E.P) w' sz len (at_ (K.blk s) off) len aR _ (by simp) (fun j v hj=>?_);have hjl:j<len*sz:=(by have:=(Qo.1 hj).1;simpa using this);simp only[List.getElem?_map,List.getElem?_range hjl,Option.map_some,iE] at hj;subst hj;rw[addr_add,cell_of_heap (w:=w) (by rw[hw])];simp[World.cell?,g1,show off+j<vals.size by omega]
   .rw[hlen] at hi;have hi':i< (chunks ag sz len (cs.drop off)).length:=(by rw[iD];exact hi);have hge:((chunks ag sz len (cs.drop off)).map er).getD i Lv=er ((chunks ag sz len (cs.drop off)).getD i Lv):=(by simp[List.getD,hi']);rw[hge,uH];have hcc:=zk (cs:=cs.drop off) ag (n:=sz) (k:=len) (fun hf=>by subst hf;simpa using hag) (by simp;omega) (fun hf=>by
     rcases hone with h1|h1
     .simp only[RP,P6] at h1⊢;exact fun x hx=>h1 x (List.mem_of_mem_drop hx)
     .subst h1;cases hf) hi
    have hlt:i*sz+sz<=len*sz:=by
     have:=Qp sz (Nat.succ_le_of_lt hi)
     rwa[Qq] at this
    refine⟨by rw[hcc];simp;omega,fun j hj=>?_⟩;refine zB (by rw[hcc];simp;omega) ?_;rw[hcc,iA _ hj,iW,iW];have hq:i*sz+j<len*sz:=(by omega);have:((List.range (len*sz)).map fun q=>vals.getD (off+q) undef).getD (i*sz+j) undef=vals.getD (off+(i*sz+j)) undef:=(by simp[List.getD,hq]);rw[this];exact g4 _ (by omega)
structure iX (P:Program)(w:World)(sz n:Nat)(tx:TypeId)(z cx:Value)(news:List Value):Prop where
 len:news.length=n*sz
 one:∀u∈news,u.oneCell'=true
 kind:(((∃e',P.underlying tx=some (.slice e'))\/P.underlying tx=some .string)/\(∀w',(Builtin.lenOf cx).run P w'= .ok n w')/\∀w',w'.heap=w.heap->(Builtin.firstCells sz n cx).run P w'= .ok news.toArray w')\/
  ((∃k k',P.underlying tx=some (.int k)/\cx= .int k' n)/\news=(Builtin.zeroCells z.cells n).toList/\z.cells.size=sz)
theorem zD (z:Array Value){n:Nat}(h:n*z.size=0):Builtin.zeroCells z n= #[]:=by simp[Builtin.zeroCells,h,Array.range_zero']
theorem zF {n:Nat}(h:n<=2^47):IntKind.i64.wrap (n:Int)=n:=by rw[IntKind.wrap_i64];omega
theorem run_append_room' {P:Program}{w w':World}{t tx ty e:TypeId}{i:TypeInfo}{z:Value}{n sLen sCap:Nat}{cx:Value}{news:List Value}{base:Option Addr}(ht:P.underlying t=some (.slice e))(hi:P.info? e=some i)(hz:i.zero=some z)(hs:iX P w i.size n tx z cx news)(hn:n<=2^47)(hb:n*i.bytes<=2^47)(hroom:sLen+n<=sCap)(h1:∀a,base=some a->(storeCells (a.add (sLen*i.size)) news).run P w= .ok () w')(h2:base=none->w'=w):(Builtin.append_ #[t,tx] ty #[.slice base sLen sCap,cx]).run P w= .ok (.slice base (sLen+n) sCap) w':=by
 rcases hs.kind with ⟨hk,hl,hc⟩| ⟨⟨k,k',hk,rfl⟩,hc,hzs⟩
 .have hc':=hc w rfl;cases base with
  |none=>rw[h2 rfl];rcases hk with ⟨e',hk⟩|hk<;>simp[Builtin.append_,run_underlying ht,run_underlying hk,Go.sizeOf,typeInfo,hi,hl,hroom,hc']
  |some a=>have hst:=h1 a rfl;rcases hk with ⟨e',hk⟩|hk<;>simp[Builtin.append_,run_underlying ht,run_underlying hk,Go.sizeOf,typeInfo,hi,hl,hroom,hc',hst]
 .have hw:=zF hn;have hb':¬(281474976710656< (n:Int)*(i.bytes:Int)):=by have:=Int.ofNat_le.2 hb;simp at this;omega
  have hneg:¬((n:Int)<0):=by omega
  by_cases h0:n*i.size=0
  .have hnews:news=[]:=by rw[hc,zD _ (by rw[hzs];exact h0)]
   subst hnews;cases base with
   |none=>rw[h2 rfl];simp[Builtin.append_,run_underlying ht,run_underlying hk,Go.sizeOf,typeInfo,hi,hroom,asInt,asIntOf,hw,hb',hneg,h0]|some a=>have hst:=h1 a rfl;simp[Builtin.append_,run_underlying ht,run_underlying hk,Go.sizeOf,typeInfo,hi,hroom,asInt,asIntOf,hw,hb',hneg,h0,hst]
  .cases base with
   |none=>rw[h2 rfl];simp[Builtin.append_,run_underlying ht,run_underlying hk,Go.sizeOf,typeInfo,zeroValue,hi,hz,hroom,asInt,asIntOf,hw,hb',hneg]|some a=>have hst:=h1 a rfl;rw[hc] at hst;simp[Builtin.append_,run_underlying ht,run_underlying hk,Go.sizeOf,typeInfo,zeroValue,hi,hz,hroom,asInt,asIntOf,hw,hb',hneg,h0,hst]
theorem run_append_grow' {P:Program}{w:World}{t tx ty e:TypeId}{i:TypeInfo}{z:Value}{n sLen sCap:Nat}{cx:Value}{olds news:List Value}{base:Option Addr}(ht:P.underlying t=some (.slice e))(hi:P.info? e=some i)(hz:i.zero=some z)(hs:iX P w i.size n tx z cx news)(hold:∀w',w'.heap=w.heap->(Builtin.firstCells i.size sLen (.slice base sLen sCap)).run P w'= .ok olds.toArray w')(hn:sLen+n<=2^47)(hb:(sLen+n)*i.bytes<=2^47)(hroom:sCap<sLen+n):(Builtin.append_ #[t,tx] ty #[.slice base sLen sCap,cx]).run P w= .ok (.slice (some ⟨w.heap.size,0,none⟩) (sLen+n) (grownCap w (sLen+n) sCap e)) (w.drew.alloc (.cells ((olds++news).toArray++Builtin.zeroCells z.cells (grownCap w (sLen+n) sCap e-(sLen+n))) e)):=by
 have hnr:¬(sLen+n<=sCap):=by omega
 have h63:¬(9223372036854775807< ((sLen:Int)+(n:Int))):=by omega
 have h48:¬(281474976710656<Builtin.nextslicecap (sLen+n) sCap*i.bytes):=by have:=growslice_fits (bytes:=i.bytes) hroom (by omega);omega
 have hold':=hold w.drew rfl;have O9:(olds++news).toArray=olds.toArray++news.toArray:=by simp
 rcases hs.kind with ⟨hk,hl,hc⟩| ⟨⟨k,k',hk,rfl⟩,hc,hzs⟩
 .have hc':=hc w.drew rfl;rcases hk with ⟨e',hk⟩|hk<;>
   (simp[Builtin.append_,run_underlying ht,run_underlying hk,Go.sizeOf,typeInfo,zeroValue,hi,hz,hl,hnr,h63,h48,Question.forced,hc',hold',newRow,grownCap]
    congr 2;apply Array.ext';simp[Qc])
 .have hw:=zF (n:=n) (by omega);have hnb:n*i.bytes<=2^47:=PD (Qp _ (by omega)) hb;have hb':¬(281474976710656< (n:Int)*(i.bytes:Int)):=by have:=Int.ofNat_le.2 hnb;simp at this;omega
  have hneg:¬((n:Int)<0):=by omega
  by_cases h0:n*i.size=0
  .have hnews:news=[]:=by rw[hc,zD _ (by rw[hzs];exact h0)]
   subst hnews;simp[Builtin.append_,run_underlying ht,run_underlying hk,Go.sizeOf,typeInfo,zeroValue,hi,hz,hnr,h63,h48,Question.forced,asInt,asIntOf,hw,hb',hneg,h0,hold',newRow,grownCap]
  .subst hc;simp[Builtin.append_,run_underlying ht,run_underlying hk,Go.sizeOf,typeInfo,zeroValue,hi,hz,hnr,h63,h48,Question.forced,asInt,asIntOf,hw,hb',hneg,h0,hold',newRow,grownCap];congr 2;apply Array.ext';simp[Qc]
end
end Aq
end
