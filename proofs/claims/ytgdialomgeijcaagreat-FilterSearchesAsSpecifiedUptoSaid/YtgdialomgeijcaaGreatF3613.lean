import Derived.DefersIn
import Derived.Lib.Bytealg
import Derived.Lib.Walk
import Derived.Test.YtgdialomgeijcaaGreatF3611
import Derived.Test.YtgdialomgeijcaaGreatF3612
set_option linter.all false
section
open Go Go.Proofs Aq
namespace Sh
set_option maxRecDepth 100000
def Pred.re (x:Pred):Pred:=⟨x.Op,x.Name,x.N,x.M,x.S,x.Rj⟩
theorem Pred.Sr (x:Pred):x.re=x:=by cases x;rfl
def rT:Nat->Type
 |0=>Pred|1=>Def|2=>Rm|3=>Attr|4=>RY|5=>SE|6=>Rv|7=>Q7|_+8=>Unit
def rd:(n:Nat)->rT n
 |0=>(⟨0,[],0,0,[],[]⟩:Pred)|1=>(⟨[],0,0,0,[]⟩:Def)|2=>(⟨0,0,[]⟩:Rm)|3=>(⟨[],0,0,[]⟩:Attr)|4=>(⟨[],false,0⟩:RY)|5=>(⟨⟨[],0,0,[]⟩,false⟩:SE)|6=>(⟨⟨[],0,0,[]⟩,false⟩:Rv)|7=>(⟨⟨[],0,0,[]⟩,false⟩:Q7)|_+8=>()
def rlf:Nat->List Ty
 |0=>[.int .i64,.str,.int .i64,.int .i64,.str,.slice (.st 0)]|1=>[.str,.int .i64,.int .i64,.int .i64,.slice .str]|2=>[.int .i64,.int .i64,.slice (.st 1)]|3=>[.str,.int .i64,.int .i64,.str]|4=>[.slice (.st 3),.bool,.int .i64]|5=>[.str,.int .i64,.int .i64,.str,.bool]|6=>[.str,.int .i64,.int .i64,.str,.bool]|7=>[.str,.int .i64,.int .i64,.str,.bool]|_+8=>[]
def rto:(n:Nat)->Vk rT (rlf n)->rT n
 |0=>fun p=>(⟨p.1,p.2.1,p.2.2.1,p.2.2.2.1,p.2.2.2.2.1,p.2.2.2.2.2⟩:Pred)
 |1=>fun p=>(⟨p.1,p.2.1,p.2.2.1,p.2.2.2.1,p.2.2.2.2⟩:Def)
 |2=>fun p=>(⟨p.1,p.2.1,p.2.2⟩:Rm)
 |3=>fun p=>(⟨p.1,p.2.1,p.2.2.1,p.2.2.2⟩:Attr)
 |4=>fun p=>(⟨p.1,p.2.1,p.2.2⟩:RY)
 |5=>fun p=>(⟨⟨p.1,p.2.1,p.2.2.1,p.2.2.2.1⟩,p.2.2.2.2⟩:SE)
 |6=>fun p=>(⟨⟨p.1,p.2.1,p.2.2.1,p.2.2.2.1⟩,p.2.2.2.2⟩:Rv)
 |7=>fun p=>(⟨⟨p.1,p.2.1,p.2.2.1,p.2.2.2.1⟩,p.2.2.2.2⟩:Q7)
 |_+8=>fun _=>()
def rof:(n:Nat)->rT n->Vk rT (rlf n)
 |0=>fun (x:Pred)=>(x.Op,x.Name,x.N,x.M,x.S,x.Rj)
 |1=>fun (x:Def)=>(x.Name,x.Kind,x.Lo,x.Hi,x.Words)
 |2=>fun (x:Rm)=>(x.VH,x.XQ,x.Defs)
 |3=>fun (x:Attr)=>(x.Name,x.Kind,x.N,x.S)
 |4=>fun (x:RY)=>(x.L,x.None,x.E)
 |5=>fun (x:SE)=>(x.A.Name,x.A.Kind,x.A.N,x.A.S,x.Is)
 |6=>fun (x:Rv)=>(x.A.Name,x.A.Kind,x.A.N,x.A.S,x.Is)
 |7=>fun (x:Q7)=>(x.a.Name,x.a.Kind,x.a.N,x.a.S,x.is)
 |_+8=>fun _=>()
def alU:(n:Nat)->rT n->V
 |0=>fun (x:Pred)=>Pred.v x
 |1=>fun (x:Def)=>Def.v x
 |2=>fun (x:Rm)=>Rm.v x
 |3=>fun (x:Attr)=>Attr.v x
 |4=>fun (x:RY)=>RY.v x
 |5=>fun (x:SE)=>SE.v x
 |6=>fun (x:Rv)=>Rv.v x
 |7=>fun (x:Q7)=>Q7.v x
 |_+8=>fun _=>.agg []
def rty:List (Nat×Ty):=[(2,.int .i64),(3,.int .i64),(4,.bool),(5,.int .u8),(6,.int .u8),(9,.str),(10,.str),(11,.str),(12,.int .u64),(21,.int .i32),(22,.slice (.st 0)),(24,.st 0),(25,.slice (.st 3)),(32,.slice (.st 1)),(34,.st 2),(36,.int .i64),(46,.st 4),(56,.st 3),(57,.slice (.st 3)),(60,.st 5),(69,.slice (.int .i64)),(72,.slice .str),(74,.st 1),(81,.slice (.slice (.st 7))),(83,.slice (.slice (.st 6))),(85,.slice (.st 6)),(97,.slice (.st 7)),(101,.slice (.st 3)),(103,.st 6),(115,.st 7),(127,.int .u64),(134,.int .i64),(142,.int .u32),(144,.int .u64),(146,.slice .bool),(151,.int .u64),(175,.int .u8),(176,.int .u8),(179,.int .i32),(180,.int .i32)]
def glS (_:Nat):Option ((k:IntKind)×(n:Nat)×Vec n):=none
def R:Tx:={T:=rT,d:=rd,lf:=rlf,to:=rto,of:=rof,enc:=alU,ty:=fun t=>look rty t,gl:=glS}
theorem TR:VF R where
 adn:=fun n p=>by
  match n,p with
  |0,p=>exact rfl|1,p=>exact rfl|2,p=>exact rfl|3,p=>exact rfl|4,p=>exact rfl|5,p=>exact rfl|6,p=>exact rfl|7,p=>exact rfl|_+8,p=>exact rfl
 enc:=fun n x=>by
  match n,x with
  |0,x=>exact(by show Pred.v x=_;unfold Pred.v Pred.c;simp only[Pred.afm];rfl)|1,x=>exact rfl|2,x=>exact rfl|3,x=>exact rfl|4,x=>exact rfl|5,x=>exact rfl|6,x=>exact rfl|7,x=>exact rfl|_+8,x=>exact rfl
 leaf:=fun n=>by
  match n with
  |0=>exact rfl|1=>exact rfl|2=>exact rfl|3=>exact rfl|4=>exact rfl|5=>exact rfl|6=>exact rfl|7=>exact rfl|_+8=>exact rfl
 pc:=fun n x=>by
  match n,x with
  |0,x=>exact Pred.pc x|1,x=>exact Def.pc x|2,x=>exact Rm.pc x|3,x=>exact Attr.pc x|4,x=>exact RY.pc x|5,x=>exact SE.pc x|6,x=>exact Rv.pc x|7,x=>exact Q7.pc x|_+8,x=>exact(by simp[R,alU,Q9,Ry])
end Sh
end
section
open Go Go.Proofs Aq
namespace Sh
def alV (_:Nat):Option (List V):=none
end Sh
end
section
open Go Go.Proofs Aq
namespace Sh
set_option maxRecDepth 100000
set_option maxHeartbeats 1000000
theorem apU (A B:ByteArray)(w:World):Calls Tryz.prog 72 #[.string A,.string B] w fun e w'=>e= .returned (.int .i64 (Lib.compareBytes A.data.toList B.data.toList))/\w'=w:=by
 go_enter Tryz.func72,Tryz.ntmps72
 go_wp2
 rw[run_callFunc_extern Tryz.func86 (by kernel_rfl) (by kernel_rfl) (by kernel_rfl) (e:=Extern.BytealgCompare.compare) (by kernel_rfl),Lib.run_compareString];simp only[Result.andThen];rw[Oper.upon_value]
 go_wp2
 go_ret
 exact⟨rfl,rfl⟩
theorem apV (A B:ByteArray)(w:World):Calls Tryz.prog 42 #[.string A,.string B] w fun e w'=>e= .returned (.int .i64 (Lib.compareBytes A.data.toList B.data.toList))/\w'=w:=by
 go_enter Tryz.func42,Tryz.ntmps42
 go_wp2_with (go_at_call 72;refine(apU A B _).mono ?_;rintro e w' ⟨rfl,rfl⟩)
 go_ret
 exact⟨rfl,rfl⟩
def abL (a b:List UInt8):Int:=Lib.compareBytes a b
def acB:List V->Option V
 | [.str a,.str b]=>some (.int .i64 (abL a b))|_=>none
theorem agI {E:Env}(hP:E.P=Tryz.prog){args:List V}{v:V}(h:acB args=some v):Um E 42 args v:=by
 refine⟨?_,fun I IM w Ru _ hr=>?_⟩
 .unfold aaf;rw[hP];exact⟨_,Tryz.f42.body.getD .skip,Tryz.func42,by kernel_rfl⟩
 .unfold acB at h;split at h
  .rename_i a b;cases h;obtain⟨hlen,hrel⟩:=hr;have h2':Ru.size=2:=hlen.symm;obtain⟨x,y,rfl⟩:∃x y,Ru= #[x,y]:=by
    rcases Ru with ⟨l⟩
    match l,h2' with
    | [x,y],_=>exact⟨x,y,rfl⟩
   have r0:Rel (Ra.lend I IM) (fun _=>0) w (.str a) x:=hrel 0 (by simp);have r1:Rel (Ra.lend I IM) (fun _=>0) w (.str b) y:=hrel 1 (by simp);cases r0 with|str _ A ea=>
   cases r1 with|str _ B eb=>
   rw[hP];refine callsIn_wide.2 ((apV A B w).mono ?_);rintro e w' ⟨rfl,rfl⟩;rw[ea,eb];exact⟨Go.RowKit.Below.refl _ _,.int _ _⟩
  .cases h
end Sh
end
section
namespace Aq
open Go Go.RowKit
section
variable (E:Env)
def nT (ops:List Oper):Option (Nat×Oper×Call):=match ops.getLast? with
 |some o=>match o.op with
  |.defer c=>some (ops.length-1,o,c)|_=>none
 |none=>none
abbrev Dq:=Option (Nat×List V)
def sS (fr:Fr)(c:Call):Dq:=match c.callee with
 |.value f=>match fr.ev E f with
  |.fn (.func g) x y=>some (g,x++c.args.toList.map (fr.ev E)++y)|_=>none
 |_=>none
def gY (S0:R8)(co:Code->Fr->qd->Option (Ex×Fr×qd)):Code->Fr->qd->Option (Ex×Fr×qd×Dq)
 |.seq a b,fr,Y=>match a with
  |.region _ ops false=>match nT ops.toList with
   |some (k,o,c)=>if o.dst=none/\o.guard=none then (opsL E S0 ops.toList Y.next (List.range k) fr {Y with next:=Y.next+ops.size}).bind fun (fr,Y)=>(sS E fr c).bind fun q=>(co b fr Y).map fun (e,fr,Y)=>(e,fr,Y,some q)else none
   |none=>(co a fr Y).bind fun (e,fr,Y)=>match e with
    |.normal=>gY S0 co b fr Y|e=>some (e,fr,Y,none)
  |a=>(co a fr Y).bind fun (e,fr,Y)=>match e with
   |.normal=>gY S0 co b fr Y|e=>some (e,fr,Y,none)
 |c,fr,Y=>(co c fr Y).map fun (e,fr,Y)=>(e,fr,Y,none)
end
section
variable {E:Env}{K K':Ra}{w w':World}{Y Y':qd}{B0:Nat}
def rv1 (vs:List V):V:=match vs with| [v]=>v|vs=>.Rn vs
theorem yH (h:au E B0 Y K w){fn:Func}{fr:Fr}{tmps:Array Value}(hf:bH K Y.top w fr tmps){vs:List V}(hvs:fn.results.toList.mapM (TN E fr Y)=some vs):
 ∃c,(results fn tmps).run E.P w= .ok c w/\Rel K Y.top w (rv1 vs) c:=by
 obtain⟨cs,k1,k2,k3⟩:=AU h hf fn.results.toList vs hvs;have hrun:(results fn tmps).run E.P w= .ok (if h:cs.toArray.size=1 then cs.toArray[0] else .tuple cs.toArray) w:=by have hres:results fn tmps=(do let vs<-fn.results.mapM (pF tmps);pure (if h:vs.size=1 then vs[0] else .tuple vs)):=rfl;rw[hres,Array.mapM_eq_mapM_toList];simp only[Sem.run_bind,Sem.run_map,k1,Result.andThen_ok,Sem.run_pure]
 refine⟨_,hrun,?_⟩;cases vs with
 |nil=>
  have:cs=[]:=by simpa using k2.symm
  subst this;exact .Rn [] #[] rfl (fun i hi=>absurd hi (PO i))
 |cons v1 vs=>
  cases cs with
  |nil=>simp at k2|cons c1 cs=>
   cases vs with
   |nil=>have:cs=[]:=(by simpa using k2.symm);subst this;have:=k3 0 (by simp);show Rel K Y.top w v1 _;simpa using this|cons v2 vs=>have hsz2:¬((c1::cs).toArray.size=1):=(by simp only[List.length_cons,Nat.add_right_cancel_iff] at k2;rw[List.size_toArray,List.length_cons];omega);rw[dif_neg hsz2];refine .Rn _ _ (by simpa using k2) (fun i hi=>?_);have:=k3 i hi;simpa [Qz,List.getD] using this
theorem yI {f:FuncId}{d:Nat}{fn:Func}{args:List V}{Ru:Array Value}(hs:au E B0 Y K w)(hB:B0<=w.heap.size)(hA:∀s,K.A s->s<Y.next)(hr:RelA K Y.top w args Ru)(hlen:args.length<=fn.ntmps):
 St E B0 Y K w {d:=d,om:=E.om f,tm:=fun i=>args.getD i Lv} {tmps:=Ru++Array.replicate (fn.ntmps-Ru.size) undef,defers:=[]} fn.ntmps ⟨[],w.heap.size,true⟩:=by
 have hsz:Ru.size=args.length:=hr.1.symm;refine⟨hs,hB,fun t=>?_,by simp;omega,⟨[],rfl,List.nodup_nil,(fun b hb=>by cases hb),fun _=>rfl⟩,hA,mF _⟩;show Rel K Y.top w (args.getD t Lv) _;by_cases ht:t<args.length
 .have e1:(Ru++Array.replicate (fn.ntmps-Ru.size) undef).getD t undef=Ru.getD t undef:=by simp only[Qz];rw[Array.getElem?_append_left (by omega)]
  rw[e1];exact hr.2 t ht
 .have e1:(Ru++Array.replicate (fn.ntmps-Ru.size) undef).getD t undef=undef:=by simp only[Qz];rw[Array.getElem?_append_right (by omega),Array.getElem?_replicate];split<;>rfl
  have e2:args.getD t Lv=Lv:=by simp[List.getD,List.getElem?_eq_none (Nat.le_of_not_lt ht)]
  rw[e1,e2];exact .undef _ _ _
theorem nU {F:Fence}{n:Nat}{P:Program}{ops:Array Oper}{Q:Exit->Act->World->Prop}{m:List Nat}:∀(l:List Nat)(a:Act)(w:World),
 wpOpsIn F n P ops (fun x a w=>match x with|.normal=>wpOpsIn F n P ops Q m a w|x=>Q x a w) l a w->wpOpsIn F n P ops Q (l++m) a w
 | [],a,w,h=>h|i::l,a,w,h=>by
  rw[List.cons_append];unfold wpOpsIn at h⊢;cases ho:ops[i]? with
  |none=>simp only[ho] at h⊢;exact nU l a w h|some o=>
   simp only[ho] at h⊢;split
   .rename_i hw;rw[if_pos hw] at h;refine⟨h.1,?_⟩;have h2:=h.2;revert h2;generalize (o.semAt F.round a.eval).run P w=res;intro h2;unfold Oper.uponIn at h2⊢;split at h2<;>try exact nU l _ _ h2
    all_goals first
     |exact h2
     | (refine⟨h2.1,h2.2.mono ?_⟩
        intro e w' hp;cases e<;>first|exact nU l _ _ hp|exact hp)
     | (refine⟨h2.1,?_⟩;exact RowsIn.mono h2.2 fun v w' hp=>nU l _ _ hp)
   .rename_i hw;rw[if_neg hw] at h;exact⟨h.1,nU l _ _ h.2⟩
theorem RelA.ext {K K':Ra}{T T':Nat->Nat}{w w':World}(e:Ext K T w K' T' w'){l:List V}{cl:Array Value}(h:RelA K T w l cl):RelA K' T' w' l cl:=⟨h.1,fun i hi=>(h.2 i hi).ext e⟩
theorem NY {ops:List Oper}{k:Nat}{o:Oper}{c:Call}(h:nT ops=some (k,o,c)):ops.length=k+1/\ops[k]? =some o/\o.op= .defer c:=by
 unfold nT at h;split at h
 .rename_i o' ho;split at h
  .rename_i c' hc;simp only[iE,iR] at h;obtain⟨rfl,rfl,rfl⟩:=h;have hne:ops≠[]:=by rintro rfl;simp at ho
   have hp:0<ops.length:=QH.2 hne;refine⟨by omega,?_,hc⟩;rw[List.getLast?_eq_getElem?] at ho;exact ho
  .cases h
 .cases h
end
end Aq
end
section
namespace Aq
open Go Go.RowKit
def qj (ms:List Nat)(n:Nat):Nat->List Nat->List Nat->List (List Nat)
 |0,_,_=>[[]]|k+1,done,rest=>rest.flatMap fun i=>if (List.range n).all (fun j=>!(ms.getD i 0).testBit j||done.contains j) then (qj ms n k (i::done) (rest.erase i)).map (i:: ·) else []
theorem NZ (ms:List Nat)(n:Nat):∀(l done rest:List Nat),l.Nodup->rest.Nodup->(∀i,i∈l↔i∈rest)->(∀a i b,l=a++i::b->∀j,(ms.getD i 0).testBit j=true->j∈done\/j∈a)->l∈qj ms n rest.length done rest:=by
 intro l;induction l with
 |nil=>
  intro done rest _ _ hm _;have:rest=[]:=List.eq_nil_iff_forall_not_mem.2 fun i hi=>by simpa using (hm i).2 hi
  subst this;simp[qj]
 |cons i l ih=>
  intro done rest hl hr hm ho;have hi:i∈rest:=(hm i).1 (by simp);have hlen:rest.length=(rest.erase i).length+1:=by rw[List.length_erase_of_mem hi];have:0<rest.length:=List.length_pos_of_mem hi;omega
  rw[hlen];simp only[qj,List.mem_flatMap];refine⟨i,hi,?_⟩;rw[if_pos]
  .rw[QE];refine⟨l,ih (i::done) (rest.erase i) (Qe.1 hl).2 (hr.erase _) (fun j=>?_) (fun a j b hab x hx=>?_),rfl⟩
   .rw[hr.mem_erase_iff];constructor
    .intro hj;refine⟨fun e=>(Qe.1 hl).1 (e▸hj),(hm j).1 (PV _ hj)⟩
    .rintro⟨h1,h2⟩;rcases PI.1 ((hm j).2 h2) with e|e
     .exact absurd e h1
     .exact e
   .rcases ho (i::a) j b (by rw[hab];rfl) x hx with h|h
    .exact .inl (PV _ h)
    .rcases PI.1 h with e|e
     .exact .inl (by rw[e];simp)
     .exact .inr e
  .rw[P6];intro j _;by_cases hj:(ms.getD i 0).testBit j=true
   .rcases ho [] i l rfl j hj with h|h
    .simp[h]
    .cases h
   .rw[Bool.eq_false_iff.2 hj];rfl
def Ez (ops:List Oper):List (List Nat):=qj (Vj ops) ops.length ops.length [] (List.range ops.length)
theorem N7 {ops:Array Oper}(dF:Vt ops.toList=true){md:Region.Mode}{l:List Nat}(hl:jF md ops [] l):l∈Ez ops.toList:=by
 have:=NZ (Vj ops.toList) ops.toList.length l [] (List.range ops.toList.length) hl.nodup List.nodup_range (fun i=>by
  constructor
  .intro hi;have:=(hl.mem i hi).1;simpa using this
  .intro hi;rcases hl.all i (by simpa using hi) with h|h
   .cases h
   .exact h) (fun a i b hab j hj=>.inr (vM dF hl i a b hab j hj))
 rw[List.length_range] at this;exact this
section
variable (E:Env)
def l6 (S0:R8)(co:Code->Fr->qd->Option (Ex×Fr×qd)):Code->Fr->qd->Option (List (Ex×Fr×qd))
 |.seq a b,fr,Y=>(l6 S0 co a fr Y).bind fun L=>(L.mapM fun (x:Ex×Fr×qd)=>match x.1 with
  |.normal=>l6 S0 co b x.2.1 x.2.2|_=>some [x]).map List.flatten
 |.region _ ops true,fr,Y=>if Vt ops.toList=true then (Ez ops.toList).mapM fun l=>(opsL E S0 ops.toList Y.next l fr {Y with next:=Y.next+ops.toList.length}).map fun x=>(Ex.normal,x.1,x.2)else none
 |c,fr,Y=>(co c fr Y).map fun x=>[x]
end
section
variable {E:Env}{K K':Ra}{w w':World}{Y Y':qd}{B0:Nat}
theorem mapM_mem {U β:Type}{f:U->Option β}:∀{l:List U}{r:List β},l.mapM f=some r->∀x∈l,∃y∈r,f x=some y:=by
 intro l;induction l with
 |nil=>intro r _ x hx;cases hx|cons a l ih=>
  intro r h x hx;simp only[PW,Option.bind_eq_bind,iP,Option.pure_def,iE] at h;obtain⟨y,h1,ys,h2,rfl⟩:=h;rcases PI.1 hx with rfl|hx
  .exact⟨y,by simp,h1⟩
  .obtain⟨z,h3,h4⟩:=ih h2 x hx;exact⟨z,PV _ h3,h4⟩
theorem EA {U β:Type}{f:U->Option β}:∀{l:List U}{r:List β},l.mapM f=some r->∀y∈r,∃x∈l,f x=some y:=by
 intro l;induction l with
 |nil=>intro r h y hy;simp at h;subst h;cases hy|cons a l ih=>
  intro r h y hy;simp only[PW,Option.bind_eq_bind,iP,Option.pure_def,iE] at h;obtain⟨z,h1,zs,h2,rfl⟩:=h;rcases PI.1 hy with rfl|hy
  .exact⟨a,by simp,h1⟩
  .obtain⟨x,h3,h4⟩:=ih h2 y hy;exact⟨x,PV _ h3,h4⟩
end
section
variable (E:Env)
def adr (fn:Func):Ex×Fr×qd->Option (V×qd)
 | (e,fr,Y)=>match e with
 |.exit _=>none|_=>(fn.results.toList.mapM (TN E fr Y)).map fun vs=>(rv1 vs,Y)
def acC (S0 S:R8)(f:FuncId)(args:List V)(d:Nat)(Y:qd):Option (List (V×qd)):=
 (E.P.funcs[f]?).bind fun fn=>fn.body.bind fun c=>
 if args.length<=fn.ntmps/\aK fn.ntmps c then (l6 E S0 S.code c {d:=d,om:=E.om f,tm:=fun i=>args.getD i Lv} Y).bind fun L=>L.mapM (adr E fn)else none
end
section
variable {E:Env}{K K':Ra}{w w':World}{Y Y':qd}{B0:Nat}
theorem N8 {m:Nat}(hE:TU E)(hS:Sound E (Rh E m))(hS1:iY E (Rh E (m+1)).code):∀(c:Code)(fr:Fr)(Y:qd)(L:List (Ex×Fr×qd)),l6 E (Rh E m) (Rh E (m+1)).code c fr Y=some L->(∀x∈L,Y.next<=x.2.2.next)/\∀B0 K w a n ds,St E B0 Y K w fr a n ds->aK n c=true->ds.nm=false->c.wpIn (FW none) 0 E.P (fun ex a' w'=>∃x∈L,jA E B0 n ds Y K w x.1 x.2.1 x.2.2 ex a' w') a w:=by
 have plain:∀(c:Code)(fr:Fr)(Y:qd)(L:List (Ex×Fr×qd)),((Rh E (m+1)).code c fr Y).map (fun x=>[x])=some L->
  (∀x∈L,Y.next<=x.2.2.next)/\∀B0 K w a n ds,St E B0 Y K w fr a n ds->aK n c=true->ds.nm=false->c.wpIn (FW none) 0 E.P (fun ex a' w'=>∃x∈L,jA E B0 n ds Y K w x.1 x.2.1 x.2.2 ex a' w') a w:=by
  intro c fr Y L h;simp only[Py] at h;obtain⟨⟨e1,Rb,Y1⟩,h1,rfl⟩:=h;obtain⟨hle,hwp⟩:=hS1 _ _ _ _ _ _ h1;refine⟨fun x hx=>by rw[Qf.1 hx];exact hle,fun B0 K w a n ds hs hok hnr=>wpIn_mono (hwp none B0 K w a n ds hs hok (.inl ⟨rfl,hnr⟩)) fun x a' w' hx=>⟨_,Qf.2 rfl,hx⟩⟩
 intro c;induction c with
 |seq a b iha ihb=>
  intro fr Y L h;simp only[l6,iP,Py] at h;obtain⟨L1,h1,LL,h2,rfl⟩:=h;obtain⟨hle1,N9⟩:=iha _ _ _ h1;have hcase:∀x∈L1,∃l∈LL,(match x.1 with
   |.normal=>l6 E (Rh E m) (Rh E (m+1)).code b x.2.1 x.2.2|_=>some [x])=some l:=mapM_mem h2
  refine⟨fun y hy=>?_,fun B0 K w a' n ds hs hok hnr=>?_⟩
  .obtain⟨l,hl,hy⟩:=List.mem_flatten.1 hy;obtain⟨x,hx,he⟩:=EA h2 l hl;obtain⟨e,Rb,Y1⟩:=x;have:=hle1 _ hx;cases e with
   |normal=>exact PD this ((ihb _ _ _ he).1 _ hy)|_=>simp only[iE] at he;subst he;rw[Qf.1 hy];exact this
  .have hok':aK n a=true/\aK n b=true:=by simpa [aK] using hok
   refine wpIn_seq (wpIn_mono (N9 B0 K w a' n ds hs hok'.1 hnr) ?_);rintro ex a1 w1 ⟨x,hx,hxe,K1,hs1,st1⟩;obtain⟨l,hl,he⟩:=hcase x hx;have hn:=hle1 _ hx;obtain⟨e,Rb,Y1⟩:=x;cases e with
   |normal=>
    cases ex<;>simp only[bX] at hxe;refine wpIn_mono ((ihb _ _ _ he).2 B0 K1 w1 a1 n ds hs1 hok'.2 hnr) ?_;rintro Px a2 w2 ⟨y,hy,hye,K2,hs2,st2⟩;exact⟨y,List.mem_flatten.2 ⟨l,hl,hy⟩,hye,K2,hs2,st1.widen st2 hn ((ihb _ _ _ he).1 _ hy)⟩
   |exit i=>simp only[iE] at he;subst he;cases ex<;>simp only[bX] at hxe;exact⟨_,List.mem_flatten.2 ⟨_,hl,Qf.2 rfl⟩,hxe,K1,hs1,st1⟩|ret=>simp only[iE] at he;subst he;cases ex<;>simp only[bX] at hxe;exact⟨_,List.mem_flatten.2 ⟨_,hl,Qf.2 rfl⟩,trivial,K1,hs1,st1⟩
 |region id ops dr=>
  intro fr Y L h;cases dr with
  |false=>exact plain _ _ _ _ h|true=>
   simp only[l6] at h;split at h
   .rename_i dF;have hnx:∀l Rb Y1,opsL E (Rh E m) ops.toList Y.next l fr {Y with next:=Y.next+ops.toList.length}=some (Rb,Y1)->Y.next+ops.toList.length<=Y1.next:=fun l Rb Y1 h1=>j6 hS _ _ _ _ _ h1;refine⟨fun x hx=>?_,fun B0 K w a n ds hs hok hnr=>?_⟩
    .obtain⟨l,hl,he⟩:=EA h x hx;simp only[Py] at he;obtain⟨⟨Rb,Y1⟩,h1,rfl⟩:=he;exact PD (PG _ _) (hnx _ _ _ h1)
    .refine wpIn_region_draw (fun t=>?_);obtain⟨md,hl⟩:=Az hE.mixed ops dF t;obtain⟨x,hx,he⟩:=mapM_mem h _ (N7 dF hl);simp only[Py] at he;obtain⟨⟨Rb,Y1⟩,h1,rfl⟩:=he;have hn:=hnx _ _ _ h1;have hst:=Step.same (new:=newer Y Y) hs.ok (w':={w with drawn:=w.drawn+1}) rfl rfl rfl rfl;have hs1:St E B0 Y K {w with drawn:=w.drawn+1} fr a n ds:=⟨hst.ok,hs.hB,hs.fr.ext hst.ext,hs.sz,hs.df,hs.st,hs.hD⟩;have hs':St E B0 {Y with next:=Y.next+ops.toList.length} K {w with drawn:=w.drawn+1} fr a n ds:=⟨lF hs1.ok _,hs1.hB,hs1.fr,hs1.sz,hs1.df,fun s h=>PS (hs1.st s h) (PG _ _),hs1.hD⟩;refine vv hE hS ops Y.next hok none _ _ fr _ K _ a h1 hl.nodup (fun i hi=>(hl.mem i hi).1) hs' (by simp) (fun i _ hA=>by have:=hs.st _ hA;omega) (fun a' K' w' hs2 st=>?_);refine⟨_,hx,trivial,K',hs2,?_⟩;have st':Step E B0 (newer Y Y1) {Y with next:=Y.next+ops.toList.length} K {w with drawn:=w.drawn+1} Y1 K' w':=st.mono (fun s hs=>by
      rcases hs with h|h
      .exact⟨h.1,by simp at hn;omega⟩
      .exact⟨PD (PG _ _) h.1,h.2⟩)
     exact hst.widen ⟨st'.ok,st'.ext,st'.below,st'.D,st'.A,st'.nI,st'.fU⟩ (mF _) (PD (PG _ _) hn)
   .cases h
 |_=>exact plain _
theorem afn {m:Nat}(hE:TU E){f:FuncId}{args:List V}{v:V}{k:Nat}(h:((acC E (Rh E m) (Rh E (m+1)) f args 1 qd.init).bind fun L=>L.mapM fun x=>Rf 20 x.2 x.1)=some (List.replicate k v)):Um E f args v:=by
 have hS:=Yu hE m;have hS1:=(Yu hE (m+1)).code;obtain⟨R,h,hR⟩:=iP.1 h;have hv:∀y∈R,Rf 20 y.2 y.1=some v:=fun y hy=>by obtain⟨z,hz,he⟩:=mapM_mem hR y hy;rw[he,List.eq_of_mem_replicate hz]
 simp only[acC,iP] at h;obtain⟨fn,hfn,c,hc,h⟩:=h;split at h
 .rename_i hok;obtain⟨hlen,ql⟩:=hok;simp only[iP] at h;obtain⟨L,hcode,h⟩:=h;refine⟨⟨fn,c,hfn,hc⟩,fun I IM w Ru hl hr=>?_⟩;have hs:=uU hl;have hr':RelA (Ra.lend I IM) qd.init.top w args Ru:=hr;have gZ:=yI (E:=E) (f:=f) (d:=1) (fn:=fn) hs (mF w.heap.size) (fun s hs=>hs.elim) hr' hlen;have hst:St E w.heap.size qd.init (Ra.lend I IM) w {d:=1,om:=E.om f,tm:=fun i=>args.getD i Lv} {tmps:=Ru++Array.replicate (fn.ntmps-Ru.size) undef,defers:=[]} fn.ntmps ⟨[],w.heap.size,false⟩:=
   ⟨gZ.ok,gZ.hB,gZ.fr,gZ.sz,⟨[],rfl,List.nodup_nil,(fun b hb=>by cases hb),fun _=>rfl⟩,gZ.st,gZ.hD⟩
  have hwp:=(N8 hE hS hS1 c _ _ _ hcode).2 _ _ w _ fn.ntmps ⟨[],w.heap.size,false⟩ hst ql rfl;refine callsIn_of_wp_marks hfn hc trivial (wpIn_mono hwp ?_);rintro x a' w' ⟨⟨e,Rb,Y1⟩,hy,hx,K',hs',st'⟩;obtain⟨z,hz,hend⟩:=mapM_mem h _ hy;have hzv:=hv z hz;have hne:e= .normal\/e= .ret:=by
   cases e with
   |normal=>exact .inl rfl|ret=>exact .inr rfl|exit i=>simp[adr] at hend
  have hend':(fn.results.toList.mapM (TN E Rb Y1)).map (fun vs=>(rv1 vs,Y1))=some z:=by rcases hne with rfl|rfl<;>exact hend
  simp only[Py] at hend';obtain⟨vs,hvs,rfl⟩:=hend';have hleave:LeavesInM Fence.wide 0 E.P fn a'.tmps (zY I IM w v) a'.defers .returning w':=by
   obtain⟨bs,d1,d2,d3,_⟩:=hs'.df;rw[d1,Qu];refine AV (B1:=w.heap.size) (mF _) (Ra.lend I IM).D bs K' w' hs'.ok hs'.hB d2 d3 st'.D (fun b hb=>lt_of_heap (hs.D b hb)) (fun w1 gy=>?_);have lN:=gy.ok;have hf2:bH {K' with D:=(Ra.lend I IM).D} Y1.top w1 Rb a'.tmps:=by have e1:Ext K' Y1.top w' {K' with D:=(Ra.lend I IM).D} Y1.top w1:=(mX K' Y1.top w' (Ra.lend I IM).D).trans gy.ext;exact hs'.fr.ext e1
   obtain⟨cv,r1,r2⟩:=yH lN hf2 hvs;have jZ:Step E w.heap.size (newer qd.init Y1) qd.init (Ra.lend I IM) w Y1 {K' with D:=(Ra.lend I IM).D} w1:=
    ⟨lN,st'.ext.trans ((mX K' Y1.top w' (Ra.lend I IM).D).trans gy.ext),st'.below.trans gy.below,fun _ h=>h,st'.A,st'.nI,st'.fU⟩
   refine⟨cv,r1,jZ.below,?_⟩;have:=qQ (T':=fun _=>0) lN 20 _ v cv r2 hzv;refine this.mQ (fun b o hi=>⟨⟨?_,hi.2⟩,rfl⟩) (fun b hi=>⟨⟨?_,hi.2⟩,rfl⟩)
   .rcases hi.1 with h1|h1
    .exact jZ.nI b o h1
    .exact .inr h1
   .rcases hi.1 with h1|h1
    .exact jZ.fU b h1
    .exact .inr h1
  rcases hne with rfl|rfl<;>cases x<;>simp only[bX] at hx<;>exact hleave
 .cases h
end
end Aq
end
section
namespace Aq
open Go
def yJ:List Item->Prop
 |.call _ _ _ _::_=>False|_=>True
def bS (F:Fence)(P:Program)(c:Code)(Q:List PanicEntry->Act->World->Prop)(a:Act)(w:World):Prop:=
 ∀(b:Frame)(k:List Item)(cs:List Frame),b.roundOf=F.round->F.fn b.fn->F.room (cs.length+1+0)->
  ∃ch a' w' todo,Q ch a' w'/\yJ todo/\StepsIn (Machine.fenced P F) P (lone (b.atR a (.code c::k)) cs w) (lone {b.atR a' todo with mode:=.panicking ch} cs w')
def kP (F:Fence)(P:Program)(c:Code)(Q:List PanicEntry->Act->World->Prop)(a:Act)(w:World):Prop:=
 ∀(b:Frame)(k:List Item)(cs:List Frame),b.roundOf=F.round->F.fn b.fn->F.room (cs.length+1+0)->
  ∃ch a' w' todo,Q ch a' w'/\yJ todo/\StepsIn (Machine.fenced P F) P (lone (b.atR a (.code c:: .inLoop c::k)) cs w) (lone {b.atR a' todo with mode:=.panicking ch} cs w')
def dY (F:Fence)(P:Program)(ops:Array Oper)(l:List Nat)(Q:List PanicEntry->Act->World->Prop)(a:Act)(w:World):Prop:=
 ∀(b:Frame)(k:List Item)(cs:List Frame),b.roundOf=F.round->F.fn b.fn->F.room (cs.length+1+0)->
  ∃ch a' w' todo,Q ch a' w'/\yJ todo/\StepsIn (Machine.fenced P F) P (lone (b.atR a (.inRegion ops l::k)) cs w) (lone {b.atR a' todo with mode:=.panicking ch} cs w')
section
variable {F:Fence}{P:Program}{Q:List PanicEntry->Act->World->Prop}{a:Act}{w:World}
theorem bS.mono {c:Code}{Q':List PanicEntry->Act->World->Prop}(h:bS F P c Q a w)(hq:∀ch a w,Q ch a w->Q' ch a w):bS F P c Q' a w:=
 fun b k cs h1 h2 h3=>let ⟨ch,a',w',t,q,r⟩:=h b k cs h1 h2 h3;⟨ch,a',w',t,hq _ _ _ q,r⟩
theorem EB {x y:Code}(h:bS F P x Q a w):bS F P (.seq x y) Q a w:=fun b k cs hro hb hr=>by
 obtain⟨ch,a',w',t,q,nc,st⟩:=h b (.code y::k) cs hro hb hr;exact⟨ch,a',w',t,q,nc,.head (fenced_calm hb hr rfl) stepR_seq st⟩
theorem EC {x y:Code}(h:x.wpIn F 0 P (fun e a' w'=>e= .normal/\bS F P y Q a' w') a w):bS F P (.seq x y) Q a w:=fun b k cs hro hb hr=>by
 obtain⟨e,a1,w1,⟨rfl,hq⟩,harr⟩:=h b (.code y::k) cs hro hb hr;obtain⟨ch,a',w',t,q,nc,st⟩:=hq b k cs hro hb hr;exact⟨ch,a',w',t,q,nc,.head (fenced_calm hb hr rfl) stepR_seq (StepsIn.trans harr st)⟩
theorem Oa {c:Operand}{x y:Code}{t:Bool}(hc:a.eval c= .bool t)(h:bS F P (if t then x else y) Q a w):bS F P (.cond c x y) Q a w:=fun b k cs hro hb hr=>by
 obtain⟨ch,a',w',t,q,nc,st⟩:=h b k cs hro hb hr;exact⟨ch,a',w',t,q,nc,.head (fenced_calm hb hr rfl) (stepR_cond hc) st⟩
theorem Oc {id:Nat}{c:Code}(h:bS F P c Q a w):bS F P (.block id c) Q a w:=fun b k cs hro hb hr=>by
 obtain⟨ch,a',w',t,q,nc,st⟩:=h b (.inBlock id::k) cs hro hb hr;exact⟨ch,a',w',t,q,nc,.head (fenced_calm hb hr rfl) stepR_block st⟩
theorem Od {c:Code}(h:bS F P c Q a w):bS F P (.scope c) Q a w:=fun b k cs hro hb hr=>by
 obtain⟨ch,a',w',t,q,nc,st⟩:=h b (.inScope c::k) cs hro hb hr;exact⟨ch,a',w',t,q,nc,.head (fenced_calm hb hr rfl) kZ st⟩
theorem kP.loop {c:Code}(h:kP F P c Q a w):bS F P (.loop c) Q a w:=fun b k cs hro hb hr=>by
 obtain⟨ch,a',w',t,q,nc,st⟩:=h b k cs hro hb hr;exact⟨ch,a',w',t,q,nc,.head (fenced_calm hb hr rfl) stepR_loop st⟩
theorem kP.ED {c:Code}(h:bS F P c Q a w):kP F P c Q a w:=fun b k cs hro hb hr=>h b (.inLoop c::k) cs hro hb hr
theorem kP.Oe {c:Code}(h:c.wpIn F 0 P (fun e a' w'=>e= .normal/\kP F P c Q a' w') a w):kP F P c Q a w:=fun b k cs hro hb hr=>by
 obtain⟨e,a1,w1,⟨rfl,hq⟩,harr⟩:=h b (.inLoop c::k) cs hro hb hr;obtain⟨ch,a',w',t,q,nc,st⟩:=hq b k cs hro hb hr;exact⟨ch,a',w',t,q,nc,StepsIn.trans harr (.head (fenced_calm hb hr rfl) stepR_inLoop st)⟩
theorem bS.region {id:Nat}{ops:Array Oper}(h:dY F P ops (List.range ops.size) Q a w):bS F P (.region id ops false) Q a w:=fun b k cs hro hb hr=>by
 obtain⟨ch,a',w',t,q,nc,st⟩:=h b k cs hro hb hr;exact⟨ch,a',w',t,q,nc,.head (fenced_calm hb hr rfl) stepR_region st⟩
theorem dY.skip {ops:Array Oper}{i:Nat}{rest:List Nat}{o:Oper}(ho:ops[i]? =some o)(hw:Region.wanted o (yielded ops a.tmps)=false)(habout:∀f,o.about P w a.eval=some f->F.fn f)(h:dY F P ops rest Q (a.put o.dst undef) w):dY F P ops (i::rest) Q a w:=fun b k cs hro hb hr=>by
 obtain⟨ch,a',w',t,q,nc,st⟩:=h b k cs hro hb hr;have hs:=stepR_op_skip (P:=P) (b:=b) (a:=a) (k:=k) (cs:=cs) (w:=w) (ops:=ops) (i:=i) (rest:=rest) (by simp[ho,hw]);simp only[ho,Option.bind_some] at hs;exact⟨ch,a',w',t,q,nc,.head (fenced_oper hb hr ho habout) hs st⟩
theorem dY.op {ops:Array Oper}{i:Nat}{rest:List Nat}{o:Oper}(ho:ops[i]? =some o)(hw:Region.wanted o (yielded ops a.tmps)=true)(h:o.wpIn F 0 P a w (fun a' w'=>dY F P ops rest Q a' w') (fun _ _ _=>False)):dY F P ops (i::rest) Q a w:=fun b k cs hro hb hr=>by
 unfold Oper.wpIn at h;obtain⟨habout,h⟩:=h;have h0:(lone (b.atR a (.inRegion ops (i::rest)::k)) cs w).fenced P F:=fenced_oper hb hr ho habout;simp only[Oper.uponIn] at h;have hg:=stepGR_op (P:=P) (b:=b) (k:=k) (cs:=cs) (w:=w) (rest:=rest) ho hw;rw[hro] at hg;have hfin:∀v,(b.atR a (.inRegion ops (i::rest)::k)).finish v=b.atR (a.put o.dst v) (.inRegion ops rest::k):=by intro v;rw[Frame.finish_atR,ho];rfl
 split at h
 .rename_i v w' hr';obtain⟨ch,a',w'',t,q,nc,st⟩:=h b k cs hro hb hr;refine⟨ch,a',w'',t,q,nc,.head h0 (step_lone_go ?_) st⟩;rw[hg,<-hfin];simp[stepG.apply,hr']
 .rename_i w' hr';obtain⟨ch,a',w'',t,q,nc,st⟩:=h b k cs hro hb hr;refine⟨ch,a',w'',t,q,nc,.head h0 (step_lone_go ?_) st⟩;rw[hg,<-hfin];simp[stepG.apply,hr']
 .rename_i d w' hr';obtain⟨ch,a',w'',t,q,nc,st⟩:=h b k cs hro hb hr;refine⟨ch,a',w'',t,q,nc,.head h0 (step_lone_go ?_) st⟩;have:({b.atR a (.inRegion ops (i::rest)::k) with defers:=d::a.defers}:Frame).finish undef=
   b.atR ({a with defers:=d::a.defers}.put o.dst undef) (.inRegion ops rest::k):=by
   have:=Frame.finish_atR b {a with defers:=d::a.defers} ops i rest k undef;rw[ho] at this;exact this
  rw[hg];simp only[stepG.apply,Sem.runT_eq,hr',GStep.bare_after];exact congrArg (fun fr=>GStep.go {frame:=fr,callers:=cs,status:=.running,dying:=none} w') this
 .rename_i f args w' hr';obtain⟨hn,hF,h⟩:=h;have hroom:F.room ((b.atR a (.inRegion ops (i::rest)::k)::cs).length+1+(0-1)):=Fence.room_enter hr hn;obtain⟨e,w'',fr,hR,hsteps,hfn,hleave⟩:=h (b.atR a (.inRegion ops (i::rest)::k)::cs) hroom;have henter:step P (lone (b.atR a (.inRegion ops (i::rest)::k)) cs w)=
   .next (lone (Frame.enter P f args .normal) (b.atR a (.inRegion ops (i::rest)::k)::cs) w'):=
   step_lone_go (by rw[hg];simp[stepG.apply,hr',Frame.atR])
  cases e with
  |returned v=>have hl:(lone fr (b.atR a (.inRegion ops (i::rest)::k)::cs) w'').fenced P F:=fenced_leaving (hfn▸hF) hroom hleave;obtain⟨ch,a',w₃,t,q,nc,st⟩:=hR b k cs hro hb hr;refine⟨ch,a',w₃,t,q,nc,.head h0 henter (StepsIn.trans hsteps (.head hl ?_ st))⟩;rw[<-hfin];exact step_leave_returned hleave
  |panicked chain=>exact hR.elim|outgrown=>obtain⟨a₀,w₀,hq⟩:=hR;exact hq.elim
 .rename_i row args w' hr';obtain⟨hn,h⟩:=h;obtain⟨v,w'',hR,hsteps⟩:=h (b.atR a (.inRegion ops (i::rest)::k)) cs (Fence.room_enter hr hn);have henter:step P (lone (b.atR a (.inRegion ops (i::rest)::k)) cs w)=
   .next (lone (Frame.ofRow P row args .normal) (b.atR a (.inRegion ops (i::rest)::k)::cs) w'):=
   step_lone_go (by rw[hg];simp[stepG.apply,hr',Frame.atR])
  obtain⟨ch,a',w₃,t,q,nc,st⟩:=hR b k cs hro hb hr;refine⟨ch,a',w₃,t,q,nc,.head h0 henter (StepsIn.trans ?_ st)⟩;rw[<-hfin];exact hsteps
 .rename_i l f tmps assign body w' hr';obtain⟨hn,_,h⟩:=h;obtain⟨e,w'',hR,hsteps⟩:=h (b.atR a (.inRegion ops (i::rest)::k)) cs (Fence.room_enter hr hn);have henter:step P (lone (b.atR a (.inRegion ops (i::rest)::k)) cs w)=
   .next (lone (Frame.round l f tmps assign body .normal) (b.atR a (.inRegion ops (i::rest)::k)::cs) w'):=
   step_lone_go (by rw[hg];simp[stepG.apply,hr',Frame.atR])
  cases e with
  |returned v=>obtain⟨ch,a',w₃,t,q,nc,st⟩:=hR b k cs hro hb hr;refine⟨ch,a',w₃,t,q,nc,.head h0 henter (StepsIn.trans ?_ st)⟩;rw[<-hfin];exact hsteps
  |panicked chain=>exact hR.elim|outgrown=>obtain⟨a₀,w₀,hq⟩:=hR;exact hq.elim
 .exact h.elim
 .exact h.elim
theorem dY.panic {ops:Array Oper}{i:Nat}{rest:List Nat}{o:Oper}(ho:ops[i]? =some o)(hw:Region.wanted o (yielded ops a.tmps)=true){Q':Exit->Act->World->Prop}(h:o.wpIn F 0 P a w (fun _ _=>False) Q')(hq:∀x a' w',Q' x a' w'->∃ch,x= .panic ch/\Q ch a' w'):dY F P ops (i::rest) Q a w:=fun b k cs hro hb hr=>by
 unfold Oper.wpIn at h;obtain⟨habout,h⟩:=h;have h0:(lone (b.atR a (.inRegion ops (i::rest)::k)) cs w).fenced P F:=fenced_oper hb hr ho habout;simp only[Oper.uponIn] at h;have hg:=stepGR_op (P:=P) (b:=b) (k:=k) (cs:=cs) (w:=w) (rest:=rest) ho hw;rw[hro] at hg;split at h
 .exact h.elim
 .exact h.elim
 .exact h.elim
 .rename_i f args w' hr';obtain⟨hn,hF,h⟩:=h;have hroom:F.room ((b.atR a (.inRegion ops (i::rest)::k)::cs).length+1+(0-1)):=Fence.room_enter hr hn;obtain⟨e,w'',fr,hR,hsteps,hfn,hleave⟩:=h (b.atR a (.inRegion ops (i::rest)::k)::cs) hroom;have henter:step P (lone (b.atR a (.inRegion ops (i::rest)::k)) cs w)=
   .next (lone (Frame.enter P f args .normal) (b.atR a (.inRegion ops (i::rest)::k)::cs) w'):=
   step_lone_go (by rw[hg];simp[stepG.apply,hr',Frame.atR])
  cases e with
  |returned v=>exact hR.elim|panicked chain=>have hl:(lone fr (b.atR a (.inRegion ops (i::rest)::k)::cs) w'').fenced P F:=fenced_leaving (hfn▸hF) hroom hleave;obtain⟨ch,hx,q⟩:=hq _ _ _ hR;cases hx;refine⟨_,a,w'',.inRegion ops (i::rest)::k,q,trivial,.head h0 henter (StepsIn.trans hsteps (.one hl ?_))⟩;rw[<-Frame.raise_atR];exact step_leave_panicked hleave
  |outgrown=>obtain⟨a₀,w₀,hR⟩:=hR;obtain⟨ch,hx,_⟩:=hq _ _ _ hR;cases hx
 .rename_i row args w' hr';obtain⟨hn,h⟩:=h;obtain⟨v,w'',hR,hsteps⟩:=h (b.atR a (.inRegion ops (i::rest)::k)) cs (Fence.room_enter hr hn);exact hR.elim
 .rename_i l f tmps assign body w' hr';obtain⟨hn,_,h⟩:=h;obtain⟨e,w'',hR,hsteps⟩:=h (b.atR a (.inRegion ops (i::rest)::k)) cs (Fence.room_enter hr hn);have henter:step P (lone (b.atR a (.inRegion ops (i::rest)::k)) cs w)=
   .next (lone (Frame.round l f tmps assign body .normal) (b.atR a (.inRegion ops (i::rest)::k)::cs) w'):=
   step_lone_go (by rw[hg];simp[stepG.apply,hr',Frame.atR])
  cases e with
  |returned v=>exact hR.elim|panicked chain=>obtain⟨ch,hx,q⟩:=hq _ _ _ hR;cases hx;refine⟨_,a,w'',.inRegion ops (i::rest)::k,q,trivial,.head h0 henter ?_⟩;rw[<-Frame.raise_atR];exact hsteps
  |outgrown=>obtain⟨a₀,w₀,hR⟩:=hR;obtain⟨ch,hx,_⟩:=hq _ _ _ hR;cases hx
 .rename_i v w' hr';obtain⟨ch,hx,q⟩:=hq _ _ _ h;cases hx;refine⟨_,a,w',.inRegion ops (i::rest)::k,q,trivial,.one h0 (step_lone_go ?_)⟩;rw[hg,<-Frame.raise_atR];simp[stepG.apply,hr']
 .exact h.elim
theorem Og {g:Operand}{ps:Array Tmp}{assign body:Code}(h:∀fn,F.fn fn->∃(l:Nat) (mark:List Deferred) (w₁:World) (d:Deferred) (w₁':World) (f:FuncId) (args:Array Value) (w₂:World),(Instr.enterLoop fn a.tmps ps assign body F.round).run P w= .ok (l,mark) w₁/\ (resolve a.eval (rangeCall g l) 0).run P w₁= .ok d w₁'/\ (∀f',Target.leads P w₁' d.target d.args=some f'->F.fn f')/\ (invoke d.target d.args).run P w₁'= .ok (.enter f args) w₂/\ (F.depth.isSome=true->1<=0)/\
   CallsIn F (0-1) P f args w₂ (fun e w'=>∃ch,e= .panicked ch/\Q ch {a with defers:=mark++a.defers} w')):
 bS F P (.rangeFunc g ps assign body) Q a w:=fun b k cs hro hb hr=>by
 obtain⟨l,mark,w₁,d,w₁',f,args,w₂,he,hres,hlead,hinv,hn,hF,hcall⟩:=h b.fn hb;rw[<-hro] at he;have h0:(lone (b.atR a (.code (.rangeFunc g ps assign body)::k)) cs w).fenced P F:=by refine fenced_lone (.inl hb) (fun f' hf'=>hlead f' ?_) (Fence.room_le hr (by omega));have hev:=Frame.eval_atR b a (.code (.rangeFunc g ps assign body)::k);simp only[Frame.atR] at hev;simp only[Frame.about,Frame.atR,he,hev,hres] at hf';exact hf'
 have henter:=stepR_rangeFunc (P:=P) (b:=b) (a:=a) (k:=k) (cs:=cs) (w:=w) he hres hinv;have hroom:F.room ((b.atR {a with defers:=mark++a.defers} (.inRangeFunc l::k)::cs).length+1+(0-1)):=Fence.room_enter hr hn;obtain⟨e,w₃,fr,⟨ch,rfl,hq⟩,hsteps,hfn,hleave⟩:=hcall (b.atR {a with defers:=mark++a.defers} (.inRangeFunc l::k)::cs) hroom;have hl:(lone fr (b.atR {a with defers:=mark++a.defers} (.inRangeFunc l::k)::cs) w₃).fenced P F:=fenced_leaving (hfn▸hF) hroom hleave;refine⟨ch,_,w₃,.inRangeFunc l::k,hq,trivial,.head h0 henter (StepsIn.trans hsteps (.one hl ?_))⟩;rw[<-Frame.raise_atR];exact step_leave_panicked hleave
theorem EF {f:FuncId}{fn:Func}{c:Code}{args:Array Value}{R:Ending->World->Prop}(hf:P.funcs[f]? =some fn)(hb:fn.body=some c)(hF:F.fn f)(h:bS F P c (fun ch a w=>LeavesInM F 0 P fn a.tmps R a.defers (.panicking ch) w) {tmps:=args++Array.replicate (fn.ntmps-args.size) undef,defers:=[]} w)(hro:F.round=none:=by rfl):CallsIn F 0 P f args w R:=by
 refine⟨hF,fun cs hr=>?_⟩;let b:Frame:={(default:Frame) with fn:=f,kind:=.normal,roundOf:=none}
 have henter:Frame.enter P f args .normal=b.atR {tmps:=args++Array.replicate (fn.ntmps-args.size) undef,defers:=[]} [.code c]:=by simp[Frame.enter,Frame.atR,hf,hb,b]
 obtain⟨ch,a',w',todo,hq,_,hs₀⟩:=h b [] cs hro.symm hF hr;rw[<-henter] at hs₀;obtain⟨e',w'',fr',hR,hs,hfn,hl⟩:=leaves_stepsInM a'.defers (.panicking ch) w' {b.atR a' todo with mode:=.panicking ch} cs rfl rfl rfl hf rfl hF hr hq;exact⟨e',w'',fr',hR,ComesIn.of_steps hs₀ hs,hfn,hl⟩
theorem Oh {l:Nat}{f:FuncId}{tmps:Array Value}{assign body:Code}{R:Ending->World->Prop}(hF:F.fn f)(h:assign.wpIn (F.inRound l) 0 P (fun e a₁ w₁=>e= .normal/\∃w₂,(Instr.beginRound l).run P w₁= .ok () w₂/\bS (F.inRound l) P body (fun ch a' w'=>a'.defers=[]/\R (.panicked ch) w') a₁ w₂) {tmps:=tmps,defers:=[]} w):
 RoundIn F 0 P l f tmps assign body w R:=by
 refine⟨hF,fun c cs hr=>?_⟩;let b:Frame:={(default:Frame) with fn:=f,kind:=.normal,roundOf:=some l}
 have hb0:Frame.round l f tmps assign body .normal=b.atR {tmps:=tmps,defers:=[]} [.code assign,.beginRound,.code body]:=by simp[Frame.round,Frame.atR,b]
 have hr':(F.inRound l).room ((c::cs).length+1+0):=hr;have hF':(F.inRound l).fn b.fn:=hF;obtain⟨e,a₁,w₁,⟨rfl,w₂,hbr,hbody⟩,harr⟩:=h b [.beginRound,.code body] (c::cs) rfl hF' hr';rw[<-hb0] at harr;have s1:StepsIn (Machine.fenced P (F.inRound l)) P (lone (b.atR a₁ [.beginRound,.code body]) (c::cs) w₁) (lone (b.atR a₁ [.code body]) (c::cs) w₂):=
  .one (fenced_calm (fr:=b.atR a₁ [.beginRound,.code body]) hF' hr' rfl) (stepR_beginRound rfl hbr)
 obtain⟨ch,a',w',todo,⟨hd,hR⟩,nc,st⟩:=hbody b [] (c::cs) rfl hF' hr';refine⟨.panicked ch,w',hR,(StepsIn.trans harr s1).trans (StepsIn.trans st (.one ?_ ?_))⟩
 .exact fenced_calm (fr:={b.atR a' todo with mode:=.panicking ch}) hF' hr' (by simp[Frame.about,Frame.atR,hd])
 .refine step_lone_go ?_;have hc:({b.atR a' todo with mode:=.panicking ch}:Frame).catches P=false:=by
   unfold Frame.catches Frame.atR;dsimp only;split
   .exact nc.elim
   .rfl
  simp only[Frame.atR,hd] at hc;simp[stepG,unwind,Frame.atR,hd,hc]
end
end Aq
end
section
namespace Aq
open Go Go.RowKit
structure Vd where
 code:Code->Fr->qd->Option (V×qd)
 call:FuncId->List V->Nat->qd->Option (V×qd)
section
variable (E:Env)(S:R8)(Q:Vd)
def kQ (l:Nat)(args:List V)(Y:qd):Option (V×qd):=
 (Y.loops l).bind fun r=>
 if r.st=0/\r.ps.length=args.length then (S.code r.aF {r.fr with tm:=(r.ps.zip args).foldl (fun tm (p,a)=>upd tm p a) r.fr.tm} Y).bind fun (e,fr,Y1)=>
  match e with
  |.normal=>(Y1.loops l).bind fun r1=>if r1.st=0 then Q.code r.body fr (Y1.aO l {r1 with st:=1}) else none
  |_=>none else none
def dZ (d:Nat)(Y:qd)(fv:V)(args:List V):Option (V×qd):=
 match fv with
 |.fn (.func f) first cap=>if E.imp f=true then Q.call f (first++args++cap) (d+1) Y else none
 |.fn (.yield l) [] []=>kQ S Q l args Y|_=>none
def VI (fr:Fr)(Y:qd)(o:Oper):Option (V×qd):=
 match o.op with
 |.panic x=>match fr.ev E x with
  |.iface t v=>some (.iface t v,Y)|_=>none
 |.call c=>match c.callee with
  |.value f=>dZ E S Q fr.d Y (fr.ev E f) (c.args.toList.map (fr.ev E))|_=>none
 |_=>none
def d9 (ops:List Oper)(base:Nat):List Nat->Fr->qd->Option (V×qd)
 | [],_,_=>none|i::l,fr,Y=>
  match (ops[i]?).bind fun o=>(Sq ops fr o).bind fun t=>if t=true then VI E S Q fr Y o else none with
  |some r=>some r|none=>(Tj E S ops base i fr Y).bind fun (fr,Y)=>d9 ops base l fr Y
noncomputable def aL:Code->Fr->qd->Option (V×qd)
 |.seq a b,fr,Y=>match aL a fr Y with
  |some r=>some r|none=>(RD E S a fr Y).bind fun (e,fr,Y)=>match e with
   |.normal=>aL b fr Y|_=>none
 |.cond c a b,fr,Y=>(dI (fr.ev E c)).bind fun t=>if t=true then aL a fr Y else aL b fr Y
 |.block _ c,fr,Y=>aL c fr Y|.scope c,fr,Y=>aL c fr Y|.loop c,fr,Y=>match aL c fr Y with
  |some r=>some r|none=>(RD E S c fr Y).bind fun (e,fr,Y)=>match e with
   |.normal=>Q.code (.loop c) fr Y|_=>none
 |.region _ ops dr,fr,Y=>if dr=true then none else d9 E S Q ops.toList Y.next (List.range ops.size) fr {Y with next:=Y.next+ops.toList.length}
 |.rangeFunc f ps aF body,fr,Y=>if kU (fr.ev E f) then dZ E S Q fr.d ({Y with next:=Y.next+1}.aO Y.next {st:=0,pend:=none,fr:=fr,ps:=ps.toList,aF:=aF,body:=body}) (fr.ev E f) [.fn (.yield Y.next) [] []] else none
 |_,_,_=>none
def aaj (f:FuncId)(args:List V)(d:Nat)(Y:qd):Option (V×qd):=
 (E.P.funcs[f]?).bind fun fn=>fn.body.bind fun c=>
 if args.length<=fn.ntmps/\aK fn.ntmps c=true then Q.code c {d:=d,om:=E.om f,tm:=fun i=>args.getD i Lv} Y else none
noncomputable def TG:Nat->Vd
 |0=>⟨fun _ _ _=>none,fun _ _ _ _=>none⟩
 |n+1=>⟨aL E (Rh E n) (TG n),aaj E (TG n)⟩
end
def l7 (E:Env)(B0:Nat)(Y:qd)(K:Ra)(w:World)(v:V)(Y':qd)(K':Ra)(ch:List PanicEntry)(w':World):Prop:=
 ∃c,ch=[{v:=c,recovered:=false}]/\Rel K' Y'.top w' v c/\(∀s,K'.A s->s<Y'.next)/\Step E B0 (newer Y Y') Y K w Y' K' w'
def l8 (E:Env)(B0:Nat)(ds:iF)(Y:qd)(K:Ra)(w:World)(v:V)(Y':qd):List PanicEntry->Act->World->Prop:=
 fun ch a' w'=>∃K',l7 E B0 Y K w v Y' K' ch w'/\∃bs:List Nat,a'.defers=bs.map mark++ds.l/\bs.Nodup/\(∀b∈bs,K'.D b/\ds.B<=b)/\(ds.nm=true->bs=[])
def nV (E:Env)(B0:Nat)(Y:qd)(K:Ra)(w:World)(v:V)(Y':qd):Ending->World->Prop:=
 fun e w'=>∃ch K',e= .panicked ch/\l7 E B0 Y K w v Y' K' ch w'
def jk (E:Env)(c:Code)(fr:Fr)(Y:qd)(v:V)(Y':qd):Prop:=
 Y.next<=Y'.next/\∀ro B0 K w a n ds,St E B0 Y K w fr a n ds->aK n c=true->(ro=none/\ds.nm=false\/bq c=true)->bS (FW ro) E.P c (l8 E B0 ds Y K w v Y') a w
structure fq (E:Env)(Q:Vd):Prop where
 code:∀c fr Y v Y',Q.code c fr Y=some (v,Y')->jk E c fr Y v Y'
 call:∀f args d Y v Y',Q.call f args d Y=some (v,Y')->Y.next<=Y'.next/\aaf E f/\∀ro B0 K w Ru,au E B0 Y K w->B0<=w.heap.size->(∀s,K.A s->s<Y.next)->RelA K Y.top w args Ru->
  CallsIn (FW ro) 0 E.P f Ru w (nV E B0 Y K w v Y')
section
variable {E:Env}{S:R8}{Q:Vd}{K K':Ra}{w w':World}{Y Y' Y1:qd}{B0:Nat}{fr fr':Fr}{a:Act}{n:Nat}{ds:iF}{v:V}
theorem l7.widen {K1:Ra}{w1:World}{ch:List PanicEntry}(h:Step E B0 (newer Y Y1) Y K w Y1 K1 w1)(h1:Y.next<=Y1.next)(h2:Y1.next<=Y'.next)(g:l7 E B0 Y1 K1 w1 v Y' K' ch w'):l7 E B0 Y K w v Y' K' ch w':=by obtain⟨c,g1,g2,g3,g4⟩:=g;exact⟨c,g1,g2,g3,h.widen g4 h1 h2⟩
theorem l8.widen {K1:Ra}{w1:World}(h:Step E B0 (newer Y Y1) Y K w Y1 K1 w1)(h1:Y.next<=Y1.next)(h2:Y1.next<=Y'.next)(ch:List PanicEntry)(a':Act)(w':World)(g:l8 E B0 ds Y1 K1 w1 v Y' ch a' w'):l8 E B0 ds Y K w v Y' ch a' w':=by obtain⟨K2,g1,g2⟩:=g;exact⟨K2,g1.widen h h1 h2,g2⟩
theorem Oi {x y:Code}(h:jk E x fr Y v Y'):jk E (.seq x y) fr Y v Y':=by refine⟨h.1,fun ro B0 K w a n ds hs hok hnr=>?_⟩;simp only[aK,Pz] at hok;simp only[bq,Pz] at hnr;exact EB (h.2 ro B0 K w a n ds hs hok.1 (hnr.imp id And.left))
theorem Oj {x y:Code}(h:dJ E x fr Y .normal fr' Y1)(g:jk E y fr' Y1 v Y'):jk E (.seq x y) fr Y v Y':=by refine⟨PD h.1 g.1,fun ro B0 K w a n ds hs hok hnr=>?_⟩;simp only[aK,Pz] at hok;simp only[bq,Pz] at hnr;refine EC (wpIn_mono (h.2 ro B0 K w a n ds hs hok.1 (hnr.imp id And.left)) ?_);rintro x a1 w1 ⟨hx,K1,s1,st1⟩;cases x<;>simp only[bX] at hx;exact⟨rfl,(g.2 ro B0 K1 w1 a1 n ds s1 hok.2 (hnr.imp id And.right)).mono (l8.widen st1 h.1 g.1)⟩
theorem Ol {c:Operand}{x y:Code}{t:Bool}(hc:dI (fr.ev E c)=some t)(h:jk E (if t then x else y) fr Y v Y'):jk E (.cond c x y) fr Y v Y':=by
 refine⟨h.1,fun ro B0 K w a n ds hs hok hnr=>?_⟩;simp only[aK,Pz] at hok;simp only[bq,Pz] at hnr;refine Oa (uO (fV hs.ok hs.fr c) hc) (h.2 ro B0 K w a n ds hs ?_ ?_)
 .cases t
  .exact hok.2
  .exact hok.1
 .cases t
  .exact hnr.imp id And.right
  .exact hnr.imp id And.left
theorem Om (hS:iY E S.code)(hQ:fq E Q)(h:au E B0 Y K w)(hB:B0<=w.heap.size)(hA:∀s,K.A s->s<Y.next){l:Nat}{args:List V}{Ru:Array Value}(hv:kQ S Q l args Y=some (v,Y'))(ra:RelA K Y.top w args Ru):
 Y.next<=Y'.next/\∃fn tmps aF body,(Instr.yield (K.lp l) Ru).run E.P w= .ok (.round (K.lp l) fn tmps aF body) w/\RoundIn Fence.wide 0 E.P (K.lp l) fn tmps aF body w (nV E B0 Y K w v Y'):=by
 unfold kQ at hv;simp only[iP] at hv;obtain⟨r,hl,hv⟩:=hv;split at hv
 .rename_i hst;simp only[iP] at hv;obtain⟨⟨e1,Rb,Y1⟩,jC,hv⟩:=hv;cases e1 with
  |normal=>
   simp only[iP] at hv;obtain⟨r1,hl1,hv⟩:=hv;split at hv
   .rename_i iZ;obtain⟨uW,hb0,hZ,fn,tmps,D,hh,hf,hok1,hok2,hps,hn1,hn2⟩:=h.loop l r hl;obtain⟨hle1,hw1⟩:=hS _ _ _ _ _ _ jC;obtain⟨hle2,hw2⟩:=hQ.code _ _ _ _ _ hv;have uX:Y1.next<=Y'.next:=hle2;refine⟨by omega,?_⟩;have hsz:Ru.size=r.ps.length:=(by have:=ra.1;omega);have lg:=run_yield (P:=E.P) (args:=Ru) hh (by simpa using hsz);refine⟨_,_,_,_,lg,?_⟩;dsimp only;rw[zip_toArray];have lq:=z8 (K:=K) (w:=w) (T:=Y.top) r.ps args Ru.toList r.fr tmps hst.2 (by have:=ra.1;simpa using this) hf (fun i hi=>by rw[mM];exact ra.2 i hi) hps;generalize Ie:(r.ps.zip Ru.toList).foldl (fun tmps (t,a)=>tmps.setIfInBounds t a) tmps=uY at lq;refine Oh trivial ?_;have hs0:St E B0 Y K w {r.fr with tm:=(r.ps.zip args).foldl (fun tm (p,a)=>upd tm p a) r.fr.tm} {tmps:=uY,defers:=[]} tmps.size ⟨[],0,true⟩:=
     ⟨h,hB,lq.1,lq.2,⟨[],rfl,List.nodup_nil,(fun b hb=>by cases hb),fun _=>rfl⟩,hA,Ql _⟩
    refine wpIn_mono (hw1 (some (K.lp l)) B0 K w _ tmps.size ⟨[],0,true⟩ hs0 hok1 (.inr hn1)) ?_;rintro x a1 w1 ⟨hx,K1,hs1,st1⟩;cases x<;>simp only[bX] at hx;obtain⟨Aa,hb1,Ig,oM,oN,D1,oO,hf1,_⟩:=hs1.ok.loop l r1 hl1;have jD:K1.lp l=K.lp l:=(st1.ext.A l uW).2.2.1;have hbr:=run_beginRound (P:=E.P) oO (by simp[dV,iZ]);have jE:=Step.aO (new:=newer Y1 (Y1.aO l {r1 with st:=1})) hs1.ok hs1.hB (r':={r1 with st:=1}) hl1 rfl rfl rfl rfl oO;rw[jD] at hbr;refine⟨rfl,_,hbr,?_⟩;have uZ:(w1.putObj (K.lp l) (.loop {state:=LoopState.busy,pending:=r1.pend.bind eB,fn:=oM,tmps:=oN,params:=r1.ps.toArray,assign:=r1.aF,body:=r1.body,defers:=D1}))=
     (w1.putObj (K1.lp l) (.loop {({state:=dV r1.st,pending:=r1.pend.bind eB,fn:=oM,tmps:=oN,params:=r1.ps.toArray,assign:=r1.aF,body:=r1.body,defers:=D1}:Go.Loop) with state:=dV 1,pending:=r1.pend.bind eB})):=by
     rw[jD];rfl
    dsimp only;rw[uZ];have u6:St E B0 (Y1.aO l {r1 with st:=1}) K1 _ Rb a1 tmps.size ⟨[],0,true⟩:=
     ⟨jE.ok,PD hs1.hB jE.below.size,hs1.fr.ext jE.ext,hs1.sz,hs1.df,hs1.st,Ql _⟩
    have st01:=Step.trans (new:=newer Y Y1) st1 (jE.mono (fun s hs=>by have h1:Y1.next<=s:=hs.1;have h2:s<Y1.next:=hs.2;omega));refine(hw2 (some (K.lp l)) B0 K1 _ a1 tmps.size ⟨[],0,true⟩ u6 hok2 (.inr hn2)).mono ?_;rintro ch a2 w2 ⟨K2,⟨c,g1,g2,g3,g4⟩,bs,d1,_,_,d4⟩;refine⟨?_,ch,K2,rfl,c,g1,g2,g3,?_⟩
    .rw[d1,d4 rfl];rfl
    .refine(st01.mono ?_).trans (g4.mono ?_)
     .intro s hs;exact⟨hs.1,PS hs.2 uX⟩
     .intro s hs;exact⟨PD hle1 hs.1,hs.2⟩
   .simp at hv
  |exit i=>simp at hv|ret=>simp at hv
 .simp at hv
theorem EG (hS:iY E S.code)(hQ:fq E Q){d:Nat}{fv:V}{args:List V}(hv:dZ E S Q d Y fv args=some (v,Y')):Y.next<=Y'.next:=by
 unfold dZ at hv;split at hv
 .split at hv
  .exact(hQ.call _ _ _ _ _ _ hv).1
  .cases hv
 .rename_i l;unfold kQ at hv;simp only[iP] at hv;obtain⟨r,hl,hv⟩:=hv;split at hv
  .simp only[iP] at hv;obtain⟨⟨e1,Rb,Y1⟩,jC,hv⟩:=hv;have h1:=(hS _ _ _ _ _ _ jC).1;cases e1 with
   |normal=>
    simp only[iP] at hv;obtain⟨r1,hl1,hv⟩:=hv;split at hv
    .have h2:Y1.next<=Y'.next:=(hQ.code _ _ _ _ _ hv).1;omega
    .simp at hv
   |exit i=>simp at hv|ret=>simp at hv
  .simp at hv
 .cases hv
theorem EH (hS:iY E S.code)(hQ:fq E Q){o:Oper}(hv:VI E S Q fr Y o=some (v,Y')):Y.next<=Y'.next:=by
 unfold VI at hv;split at hv
 .split at hv
  .cases hv;exact mF _
  .cases hv
 .split at hv
  .exact EG hS hQ hv
  .cases hv
 .cases hv
theorem EI (hE:TU E)(hS:Sound E S)(hQ:fq E Q)(hs:St E B0 Y K w fr a n ds){o:Oper}(hv:VI E S Q fr Y o=some (v,Y'))(ro:Option Nat):
 o.wpIn (FW ro) 0 E.P a w (fun _ _=>False) (fun x a' w'=>∃ch K',x= .panic ch/\a'=a/\l7 E B0 Y K w v Y' K' ch w'):=by
 have Oo:∀d,o.op≠ .defer d:=fun d hd=>by rw[VI,hd] at hv;cases hv
 refine⟨fun _ _=>trivial,?_⟩;rw[oK _ _ Oo];unfold VI at hv;split at hv
 .rename_i x hop;have hr:=fV hs.ok hs.fr x;split at hv
  .rename_i t v0 hx;rw[hx] at hr;simp only[iE,iR] at hv;obtain⟨rfl,rfl⟩:=hv;have hex:(execOp a.eval o).run E.P w= .halt (.panic (a.eval x)) w:=by unfold execOp;simp only[hop];generalize a.eval x=c at hr;cases hr;rfl
   rw[hex,Oper.uponIn_panic];exact⟨_,K,rfl,rfl,_,rfl,hr,hs.st,.refl hs.ok⟩
  .cases hv
 .rename_i c hc;split at hv
  .rename_i f hf;have rargs:=jY hs.ok hs.fr c.args;have jl:=fV hs.ok hs.fr f;unfold dZ at hv;split at hv
   .rename_i g first cap jc
    split at hv
    .obtain⟨hn1,hbody,hcall⟩:=hQ.call _ _ _ _ _ _ hv;rw[jc] at jl;generalize hcf:a.eval f=cf at jl;cases jl with
     |fn _ _ _ av bv ha hb lu lC=>
     have lD:RelA K Y.top w (first++c.args.toList.map (fr.ev E)++cap) (av++c.args.map a.eval++bv):=j4 (j4 ⟨ha,lu⟩ rargs) ⟨hb,lC⟩;have hex:(execOp a.eval o).run E.P w= .ok (.enter g (av++c.args.map a.eval++bv)) w:=(by unfold execOp;simp only[hc];unfold resolve;simp only[hf,hcf,Deferred.ofValue,Sem.run_bind,Sem.run_pure,Result.andThen_ok,invoke];exact mR hE hbody _ _);rw[hex,Oper.uponIn_enter];refine⟨fun hd=>by simp[FW,Fence.wide] at hd,?_⟩;have h2:CallsIn (FW ro) (0-1) E.P g (av++c.args.map a.eval++bv) w (nV E B0 Y K w v Y'):=hcall ro B0 K w _ hs.ok hs.hB hs.st lD;refine h2.mono ?_;rintro e w' ⟨ch,K',rfl,hp⟩;exact⟨ch,K',rfl,rfl,hp⟩
    .cases hv
   .rename_i l jc;obtain⟨hn1,fn,tmps,aF,body,lg,vo⟩:=Om hS.code hQ hs.ok hs.hB hs.st hv rargs;have hcf:a.eval f= .func (.yield (K.lp l)) #[] #[]:=(by rw[jc] at jl;generalize a.eval f=cf at jl;cases jl;rfl);have hex:(execOp a.eval o).run E.P w= .ok (.round (K.lp l) fn tmps aF body) w:=(by unfold execOp;simp only[hc];unfold resolve;simp only[hf,hcf,Deferred.ofValue,Sem.run_bind,Sem.run_pure,Result.andThen_ok,invoke];simpa using lg);rw[hex,Oper.uponIn_round];refine⟨fun hd=>by simp[FW,Fence.wide] at hd,?_⟩;have h2:RoundIn (FW ro) (0-1) E.P (K.lp l) fn tmps aF body w (nV E B0 Y K w v Y'):=vo;refine h2.mono ?_;rintro e w' ⟨ch,K',rfl,hp⟩;exact⟨ch,K',rfl,rfl,hp⟩
   .cases hv
  .cases hv
 .cases hv
theorem EJ (hS:Sound E S)(hQ:fq E Q)(ops:List Oper)(base:Nat):∀(l:List Nat)(fr:Fr)(Y:qd),d9 E S Q ops base l fr Y=some (v,Y')->Y.next<=Y'.next:=by
 intro l;induction l with
 |nil=>intro fr Y h;cases h|cons i l ih=>
  intro fr Y h;unfold d9 at h;split at h
  .rename_i r hr;cases h;simp only[iP] at hr;obtain⟨o,_,t,_,hr⟩:=hr;split at hr
   .exact EH hS.code hQ hr
   .cases hr
  .simp only[iP] at h;obtain⟨⟨Rb,Y1⟩,hst,h⟩:=h;have h1:opsL E S ops base [i] fr Y=some (Rb,Y1):=by simp[opsL,hst]
   exact PD (j6 hS _ _ _ _ _ h1) (ih _ _ h)
theorem Oq (hE:TU E)(hS:Sound E S)(hQ:fq E Q)(ops:Array Oper)(base:Nat)(hops:gN n ops.toList=true)(ro:Option Nat):
 ∀(l:List Nat)(fr:Fr)(Y:qd)(K:Ra)(w:World)(a:Act),d9 E S Q ops.toList base l fr Y=some (v,Y')->l.Nodup->(∀i∈l,i<ops.size)->St E B0 Y K w fr a n ds->base+ops.size<=Y.next->(∀i∈l,¬K.A (base+i))->
  dY (FW ro) E.P ops l (fun ch a' w'=>∃K':Ra,(∃c,ch=[{v:=c,recovered:=false}]/\Rel K' Y'.top w' v c)/\(∀s,K'.A s->s<Y'.next)/\Step E B0 (fun s=>(base<=s/\s<base+ops.size)\/newer Y Y' s) Y K w Y' K' w'/\
   ∃bs:List Nat,a'.defers=bs.map mark++ds.l/\bs.Nodup/\(∀b∈bs,K'.D b/\ds.B<=b)/\(ds.nm=true->bs=[])) a w:=by
 intro l;induction l with
 |nil=>intro fr Y K w a hl;cases hl|cons i l ih=>
  intro fr Y K w a hl hnd hlt hs hbase iH;have hil:i∉l:=(Qe.1 hnd).1;have hi:i<ops.size:=hlt i (by simp);have hoi:ops[i]? =some ops[i]:=by simp[hi]
  have lG:ops.toList[i]? =some ops[i]:=by simpa using hoi
  have hdst:∀t,ops[i].dst=some t->t<n:=by intro t ht;simp only[gN,P6] at hops;have:=hops ops[i] (by simp);rw[ht] at this;simpa using this
  unfold d9 at hl;split at hl
  .rename_i r hr;cases hl;simp only[iP] at hr;obtain⟨o,ho,t,hwv,hr⟩:=hr;rw[lG] at ho;cases ho;split at hr
   .rename_i ht;have hw:=mU hs.fr ops ops[i] (by rw[hs.sz];exact hops) hwv;rw[ht] at hw;refine dY.panic hoi hw (EI hE hS hQ hs hr ro) ?_;rintro x a' w' ⟨ch,K',rfl,rfl,c,g1,g2,g3,g4⟩;obtain⟨bs,d1,d2,d3,d4⟩:=hs.df;exact⟨ch,rfl,K',⟨c,g1,g2⟩,g3,g4.mono (fun _ h=>.inr h),bs,d1,d2,fun b hb=>⟨g4.D b (d3 b hb).1,(d3 b hb).2⟩,d4⟩
   .cases hr
  .simp only[iP] at hl;obtain⟨⟨Rb,Y1⟩,hstep,hl⟩:=hl;simp only[Tj,lG,iP] at hstep;obtain⟨t,hwv,hstep⟩:=hstep;have hw:=mU hs.fr ops ops[i] (by rw[hs.sz];exact hops) hwv;split at hstep
   .rename_i hwt;simp only[Py,iR] at hstep;obtain⟨⟨v1,RX,Y2⟩,hop,rfl,rfl⟩:=hstep;obtain⟨rfl,hnx,hwp⟩:=vk hE hS hs (iH i (by simp)) hop;dsimp only at hl;rw[hwt] at hw;have hA1:∀{K1:Ra}{w1:World},Step E B0 (fun s=>s=base+i\/newer Y Y2 s) Y K w Y2 K1 w1->(∀s,K1.A s->s<Y2.next)/\∀j∈l,¬K1.A (base+j):=by
     intro K1 w1 st;refine⟨fun s hsA=>?_,fun j hj oQ=>?_⟩
     .rcases st.A s hsA with h1|h1|h1
      .have:=hs.st s h1;omega
      .omega
      .exact h1.2
     .have hji:j≠i:=fun e=>hil (e▸hj);rcases st.A _ oQ with h1|h1|h1
      .exact iH j (by simp[hj]) h1
      .omega
      .have:=hlt j (by simp[hj]);have:=h1.1;omega
    refine dY.op hoi hw (hwp _ _ ro (fun c w1 K1 hr st=>?_));obtain⟨hA2,hA3⟩:=hA1 st;have hs1:St E B0 Y2 K1 w1 (RX.put ops[i].dst v1) (a.put ops[i].dst c) n ds:=hs.put st hr hdst hA2;intro b k cs h1 h2 h3;obtain⟨ch,a',w',td,⟨K',q1,q2,q3,q4⟩,nc,L6⟩:=ih _ _ K1 w1 _ hl (Qe.1 hnd).2 (fun j hj=>hlt j (by simp[hj])) hs1 (by omega) hA3 b k cs h1 h2 h3;refine⟨ch,a',w',td,⟨K',q1,q2,?_,q4⟩,nc,L6⟩;refine(st.mono ?_).trans (q3.mono ?_)
    .intro s h1;rcases h1 with h1|h1
     .exact .inl ⟨by omega,by omega⟩
     .exact .inr ⟨h1.1,PS h1.2 (EJ hS hQ _ _ _ _ _ hl)⟩
    .intro s h1;rcases h1 with h1|h1
     .exact .inl h1
     .exact .inr ⟨PD hnx h1.1,h1.2⟩
   .rename_i hwt;simp only[iE,iR] at hstep;obtain⟨rfl,rfl⟩:=hstep;have hs1:St E B0 Y K w (fr.put ops[i].dst Lv) (a.put ops[i].dst undef) n ds:=hs.put (new:=fun _=>False) (.refl hs.ok) (.undef _ _ _) hdst hs.st;have hwf:t=false:=(by simpa using hwt);rw[hwf] at hw;exact dY.skip hoi hw (fun _ _=>trivial) (ih _ _ K w _ hl (Qe.1 hnd).2 (fun j hj=>hlt j (by simp[hj])) hs1 hbase (fun j hj=>iH j (by simp[hj])))
end
section
variable {E:Env}{S:R8}{Q:Vd}{K K':Ra}{w w':World}{Y Y' Y1:qd}{B0:Nat}{fr fr':Fr}{a:Act}{n:Nat}{ds:iF}{v:V}
theorem Ot (hE:TU E)(hS:Sound E S)(hQ:fq E Q){id:Nat}{ops:Array Oper}(h:d9 E S Q ops.toList Y.next (List.range ops.size) fr {Y with next:=Y.next+ops.toList.length}=some (v,Y')):jk E (.region id ops false) fr Y v Y':=by
 have hnx:=EJ hS hQ _ _ _ _ _ h;simp only at hnx;refine⟨PD (PG _ _) hnx,fun ro B0 K w a n ds hs hok _=>bS.region ?_⟩;have hs1:St E B0 {Y with next:=Y.next+ops.toList.length} K w fr a n ds:=⟨lF hs.ok _,hs.hB,hs.fr,hs.sz,hs.df,fun s hsA=>PS (hs.st s hsA) (PG _ _),hs.hD⟩;intro b k cs h1 h2 h3;obtain⟨ch,a',w',td,⟨K',⟨c,q1,q2⟩,q3,q4,q5⟩,nc,L6⟩:=Oq (n:=n) hE hS hQ ops Y.next hok ro (List.range ops.size) fr _ K w a h List.nodup_range (fun i hi=>by simpa using hi) hs1 (by simp) (fun i _ hA=>by have:=hs.st _ hA;omega) b k cs h1 h2 h3;refine⟨ch,a',w',td,⟨K',⟨c,q1,q2,q3,?_⟩,q5⟩,nc,L6⟩;have g0:Step E B0 (newer Y Y') Y K w {Y with next:=Y.next+ops.toList.length} K w:=⟨lF hs.ok _,.refl _ _ _,.refl _ _,fun _ h=>h,fun _ h=>.inl h,fun _ _ h=>.inl h,fun _ h=>.inl h⟩;refine g0.trans (q4.mono (fun s hs'=>?_));rcases hs' with hs'|hs'
 .exact⟨hs'.1,by simp only[Array.length_toList] at hnx;omega⟩
 .have h4:Y.next+ops.toList.length<=s:=hs'.1;exact⟨by omega,hs'.2⟩
theorem Ou (hE:TU E)(hS:Sound E S)(hQ:fq E Q){f:Operand}{ps:Array Tmp}{aF body:Code}(hfun:kU (fr.ev E f)=true)(happ:dZ E S Q fr.d ({Y with next:=Y.next+1}.aO Y.next {st:=0,pend:=none,fr:=fr,ps:=ps.toList,aF:=aF,body:=body}) (fr.ev E f) [.fn (.yield Y.next) [] []]=some (v,Y')):jk E (.rangeFunc f ps aF body) fr Y v Y':=by
 have hnext:Y.next+1<=Y'.next:=EG hS.code hQ happ;obtain⟨g,fa,fb,hg⟩:∃g a b,fr.ev E f= .fn (.func g) a b:=by
  generalize fr.ev E f=x at hfun;unfold kU at hfun;split at hfun
  .exact⟨_,_,_,rfl⟩
  .simp at hfun
 rw[hg] at happ;unfold dZ at happ;dsimp only at happ;split at happ
 .refine⟨PD (P7 _) hnext,fun ro B0 K w a n ds hs hok hnr=>?_⟩;have hro:ro=none/\ds.nm=false:=by
   rcases hnr with h|h
   .exact h
   .simp[bq] at h
  obtain⟨hro,hnm⟩:=hro;subst hro;simp only[aK,Pz,P6,decide_eq_true_eq] at hok;obtain⟨⟨⟨⟨hps,hok1⟩,hok2⟩,hn1⟩,hn2⟩:=hok;refine Og (fun fn _=>?_);have st1:=Step.AL (new:=newer Y Y') hs.ok hs.hB;have hB1:=PD hs.hB st1.below.size;have hst:¬K.A Y.next:=fun hA=>Nat.lt_irrefl _ (hs.st _ hA);have hf1:bH {K with D:=fun b=>K.D b\/b=w.heap.size} Y.top (w.alloc (.deferred (some []))) fr a.tmps:=hs.fr.ext st1.ext;have st2:=Step.AO (fn:=fn) (D:=w.heap.size) (ps:=ps.toList) (aF:=aF) (body:=body) st1.ok hB1 hst hf1 (by rw[hs.sz];exact hok1) (by rw[hs.sz];exact hok2) (fun p hp=>by rw[hs.sz];exact hps p hp) hn1 hn2;have hsz1:(w.alloc (.deferred (some []))).heap.size=w.heap.size+1:=by simp
  generalize hK2:Ra.lK {K with D:=fun b=>K.D b\/b=w.heap.size} Y.next (w.alloc (.deferred (some []))).heap.size=K2 at st2;generalize hw2:(w.alloc (.deferred (some []))).alloc (.loop {state:=.ready,pending:=none,fn:=fn,tmps:=a.tmps,params:=ps.toList.toArray,assign:=aF,body:=body,defers:=w.heap.size})=w2 at st2;have rA:K2.lp Y.next=w.heap.size+1:=by rw[<-hK2,<-hsz1];exact upd_same _ _ _
  have hA2:K2.A Y.next:=by rw[<-hK2];exact .inr rfl
  have hf2:bH K2 Y.top w2 fr a.tmps:=hf1.ext st2.ext;have vP:∀s,K2.A s->s<Y.next+1:=fun s hsA=>by
   rcases st2.A s hsA with h1|h1
   .exact Nat.lt_succ_of_lt (hs.st s h1)
   .omega
  have hB2:=PD hB1 st2.below.size;have hra:RelA K2 Y.top w2 [.fn (.yield Y.next) [] []] #[.func (.yield (w.heap.size+1)) #[] #[]]:=by
   refine⟨rfl,fun i hi=>?_⟩;have hi0:i=0:=by simpa using hi
   subst hi0;have:=Rel.yield (K:=K2) (T:=Y.top) (w:=w2) Y.next hA2;rw[rA] at this;exact this
  obtain⟨_,hbody,hcall⟩:=hQ.call _ _ _ _ _ _ happ;have jl:=fV st2.ok hf2 f;rw[hg] at jl;generalize hcf:a.eval f=cf at jl;cases jl with
  |fn _ _ _ av bv ha hb lu lC=>
  have lD:RelA K2 Y.top w2 (fa++[.fn (.yield Y.next) [] []]++fb) (av++ #[.func (.yield (w.heap.size+1)) #[] #[]]++bv):=j4 (j4 ⟨ha,lu⟩ hra) ⟨hb,lC⟩;have henter:=run_enterLoop_outer (P:=E.P) (w:=w) fn a.tmps ps aF body;have vQ:(w.alloc (.deferred (some []))).alloc (.loop {state:=.ready,pending:=none,fn:=fn,tmps:=a.tmps,params:=ps,assign:=aF,body:=body,defers:=w.heap.size})=w2:=by rw[<-hw2]
  rw[vQ] at henter;refine⟨w.heap.size+1,[mark w.heap.size],w2,{target:=.fn (.func g) bv,args:=av++ #[.func (.yield (w.heap.size+1)) #[] #[]]},w2,g,av++ #[.func (.yield (w.heap.size+1)) #[] #[]]++bv,w2,henter,?_,fun _ _=>trivial,?_,
   fun hd=>by simp[FW,Fence.wide] at hd,?_⟩
  .unfold resolve;have hargs:(rangeCall f (w.heap.size+1)).args.map a.eval= #[.func (.yield (w.heap.size+1)) #[] #[]]:=by simp[rangeCall,Act.eval]
   rw[hargs];simp only[rangeCall,hcf,Deferred.ofValue,Sem.run_pure]
  .simp only[invoke];exact mR hE hbody _ _
  .have vR:CallsIn (FW none) (0-1) E.P g (av++ #[.func (.yield (w.heap.size+1)) #[] #[]]++bv) w2 _:=hcall none B0 K2 w2 _ st2.ok hB2 vP lD;refine vR.mono ?_;rintro en w3 ⟨ch,K3,rfl,c,g1,g2,g3,dW⟩;refine⟨ch,rfl,K3,⟨c,g1,g2,g3,?_⟩,?_⟩
   .exact Step.trans (new:=newer Y Y') st1 ((st2.mono (fun s hs'=>by subst hs';exact⟨mF _,by omega⟩)).trans (dW.mono (fun s hs'=>by have h1:Y.next+1<=s:=hs'.1;exact⟨by omega,hs'.2⟩)))
   .obtain⟨bs,d1,d2,d3,_⟩:=hs.df;refine⟨w.heap.size::bs,by simp[d1],?_,fun b hb=>?_,fun e=>by rw[hnm] at e;cases e⟩
    .refine Qe.2 ⟨fun hm=>?_,d2⟩;exact Nat.lt_irrefl _ (lt_of_heap (hs.ok.D _ (d3 _ hm).1))
    .rcases PI.1 hb with rfl|hb
     .exact⟨dW.D _ (st2.D _ (.inr rfl)),hs.hD⟩
     .exact⟨dW.D _ (st2.D _ (.inl (d3 b hb).1)),(d3 b hb).2⟩
 .cases happ
theorem Ov (hE:TU E):∀(c:Code)(n:Nat),(∀m,m<=n->fq E (TG E m))->∀fr Y v Y',aL E (Rh E n) (TG E n) c fr Y=some (v,Y')->jk E c fr Y v Y':=by
 intro c;induction c with
 |seq x y iK ihy=>
  intro n hQ fr Y v Y' h;simp only[aL] at h;split at h
  .rename_i r hr;cases h;exact Oi (iK n hQ _ _ _ _ hr)
  .simp only[iP] at h;obtain⟨⟨e,Rb,Y1⟩,h1,h⟩:=h;cases e with
   |normal=>exact Oj (vS hE n (fun m _=>Yu hE m) x _ _ _ _ _ h1) (ihy n hQ _ _ _ _ h)
   |exit i=>cases h|ret=>cases h
 |cond c x y iK ihy=>
  intro n hQ fr Y v Y' h;simp only[aL,iP] at h;obtain⟨t,ht,h⟩:=h;refine Ol ht ?_;cases t
  .exact ihy n hQ _ _ _ _ h
  .exact iK n hQ _ _ _ _ h
 |block id c ih=>intro n hQ fr Y v Y' h;simp only[aL] at h;have:=ih n hQ _ _ _ _ h;exact⟨this.1,fun ro B0 K w a m ds hs hok hnr=>Oc (this.2 ro B0 K w a m ds hs hok hnr)⟩
 |scope c ih=>intro n hQ fr Y v Y' h;simp only[aL] at h;have:=ih n hQ _ _ _ _ h;exact⟨this.1,fun ro B0 K w a m ds hs hok hnr=>Od (this.2 ro B0 K w a m ds hs hok hnr)⟩
 |loop c ih=>
  intro n hQ fr Y v Y' h;have key:∀k,k<=n->∀fr Y,aL E (Rh E k) (TG E k) (.loop c) fr Y=some (v,Y')->Y.next<=Y'.next/\∀ro B0 K w a m ds,St E B0 Y K w fr a m ds->aK m c=true->(ro=none/\ds.nm=false\/bq c=true)->kP (FW ro) E.P c (l8 E B0 ds Y K w v Y') a w:=by
   intro k;induction k with
   |zero=>
    intro hk fr Y h;simp only[aL] at h;split at h
    .rename_i r hr;cases h;have:=ih 0 (fun m hm=>hQ m (by omega)) _ _ _ _ hr;exact⟨this.1,fun ro B0 K w a m ds hs hok hnr=>.ED (this.2 ro B0 K w a m ds hs hok hnr)⟩
    .simp only[iP] at h;obtain⟨⟨e,Rb,Y1⟩,h1,h⟩:=h;cases e<;>cases h
   |succ k ihk=>
    intro hk fr Y h;simp only[aL] at h;split at h
    .rename_i r hr;cases h;have:=ih (k+1) (fun m hm=>hQ m (by omega)) _ _ _ _ hr;exact⟨this.1,fun ro B0 K w a m ds hs hok hnr=>.ED (this.2 ro B0 K w a m ds hs hok hnr)⟩
    .simp only[iP] at h;obtain⟨⟨e,Rb,Y1⟩,h1,h⟩:=h;cases e with
     |normal=>have h':aL E (Rh E k) (TG E k) (.loop c) Rb Y1=some (v,Y'):=h;obtain⟨g1,g2⟩:=ihk (by omega) Rb Y1 h';have hc:=vS hE (k+1) (fun m _=>Yu hE m) c _ _ _ _ _ h1;refine⟨PD hc.1 g1,fun ro B0 K w a m ds hs hok hnr=>.Oe (wpIn_mono (hc.2 ro B0 K w a m ds hs hok hnr) ?_)⟩;rintro x a1 w1 ⟨hx,K1,s1,st1⟩;cases x<;>simp only[bX] at hx;refine⟨rfl,fun b kk cs q1 q2 q3=>?_⟩;obtain⟨ch,a',w',t,q,nc,st⟩:=g2 ro B0 K1 w1 a1 m ds s1 hok hnr b kk cs q1 q2 q3;exact⟨ch,a',w',t,l8.widen st1 hc.1 g1 _ _ _ q,nc,st⟩
     |exit i=>cases h|ret=>cases h
  obtain⟨g1,g2⟩:=key n (mF _) fr Y h;exact⟨g1,fun ro B0 K w a m ds hs hok hnr=>(g2 ro B0 K w a m ds hs hok hnr).loop⟩
 |region id ops dr=>
  intro n hQ fr Y v Y' h;simp only[aL] at h;split at h
  .cases h
  .rename_i hdr;have hdr':dr=false:=by simpa using hdr
   rw[hdr'];exact Ot hE (Yu hE n) (hQ n (mF _)) h
 |rangeFunc f ps x y=>
  intro n hQ fr Y v Y' h;simp only[aL] at h;split at h
  .rename_i hf;exact Ou hE (Yu hE n) (hQ n (mF _)) hf h
  .cases h
 |_=>intro n hQ fr Y v Y' h;simp[aL] at h
theorem Ow {fn:Func}{tmps:Array Value}{R:Ending->World->Prop}{B1:Nat}(hB1:B0<=B1)(KD:Nat->Prop){ch:List PanicEntry}:∀(bs:List Nat)(K:Ra)(w:World),au E B0 Y K w->B0<=w.heap.size->bs.Nodup->(∀b∈bs,K.D b/\B1<=b)->(∀b,KD b->K.D b)->(∀b,KD b->b<B1)->(∀w1,Step E B0 (fun _=>False) Y {K with D:=KD} w Y {K with D:=KD} w1->R (.panicked ch) w1)->LeavesInM Fence.wide 0 E.P fn tmps R (bs.map mark) (.panicking ch) w:=by
 intro bs;induction bs with
 |nil=>intro K w h _ _ _ hk _ hl;exact hl w (.refl (h.kr KD (fun b hb=>h.D b (hk b hb))))
 |cons b bs ih=>
  intro K w h hB hnd hbs hk hlt hl;obtain⟨hb,ng⟩:=hbs b (by simp);have hheap:=h.D b hb;have ok1:au E B0 Y {K with D:=fun x=>K.D x/\x≠b} (w.putObj b (.deferred none)):=by
   have h0:au E B0 Y {K with D:=fun _=>False} w:=h.kr _ (fun b hb=>hb.elim);have hp:=(au.mY (Y':=Y) (new:=fun _=>False) (o':=.deferred none) h0 hB (PD hB1 ng) hheap (fun _ _ _=>by simp) (fun _ _=>by simp)
    (fun l r hl=>by obtain⟨_,_,_,_,_,_,hh,_⟩:=h.loop l r hl;exact⟨hl,eD hh hheap (by simp)⟩) rfl rfl (fun _=>False) (fun x hx=>hx.elim) (fun _ h=>h)).2
   exact hp.kr (fun x=>K.D x/\x≠b) (fun x hx=>by rw[World.putObj_heap_other hx.2];exact h.D x hx.1)
  refine⟨by simp,.inl ⟨b,w.putObj b (.deferred none),rfl,run_takeDeferred hheap,?_⟩⟩;refine ih {K with D:=fun x=>K.D x/\x≠b} (w.putObj b (.deferred none)) ok1 (by simpa using hB) (Qe.1 hnd).2
   (fun x hx=>⟨⟨(hbs x (by simp[hx])).1,fun e=>(Qe.1 hnd).1 (e▸hx)⟩,(hbs x (by simp[hx])).2⟩) (fun x hx=>⟨hk x hx,fun e=>by have:=hlt x hx;omega⟩) hlt (fun w1 st=>hl w1 ?_)
  have pE:au E B0 Y {K with D:=KD} w:=h.kr KD (fun b hb=>h.D b (hk b hb));have st0:=(au.mY (Y':=Y) (new:=fun _=>False) (o':=.deferred none) pE hB (PD hB1 ng) hheap (fun _ _ _=>by simp) (fun _ _=>by simp)
   (fun l r hl=>by obtain⟨_,_,_,_,_,_,hh,_⟩:=h.loop l r hl;exact⟨hl,eD hh hheap (by simp)⟩) rfl rfl KD (fun x hx=>⟨hx,fun e=>by have h1:x<B1:=hlt x hx;omega⟩) (fun _ h=>h)).1
  exact st0.trans st
theorem Ox (hQ:fq E Q):∀f args d Y v Y',aaj E Q f args d Y=some (v,Y')->Y.next<=Y'.next/\aaf E f/\∀ro B0 K w Ru,au E B0 Y K w->B0<=w.heap.size->(∀s,K.A s->s<Y.next)->RelA K Y.top w args Ru->
 CallsIn (FW ro) 0 E.P f Ru w (nV E B0 Y K w v Y'):=by
 intro f args d Y v Y' h;simp only[aaj,iP] at h;obtain⟨fn,hfn,c,hc,h⟩:=h;split at h
 .rename_i hok;obtain⟨hle,hwp⟩:=hQ.code _ _ _ _ _ h;refine⟨hle,⟨fn,c,hfn,hc⟩,fun ro B0 K w Ru hs hB hA hr=>?_⟩;have hsz:Ru.size=args.length:=hr.1.symm;have hst:St E B0 Y K w {d:=d,om:=E.om f,tm:=fun i=>args.getD i Lv} {tmps:=Ru++Array.replicate (fn.ntmps-Ru.size) undef,defers:=[]} fn.ntmps ⟨[],w.heap.size,false⟩:=by
   refine⟨hs,hB,fun t=>?_,by simp;omega,⟨[],rfl,List.nodup_nil,(fun b hb=>by cases hb),fun _=>rfl⟩,hA,mF _⟩;show Rel K Y.top w (args.getD t Lv) _;by_cases ht:t<args.length
   .have e1:(Ru++Array.replicate (fn.ntmps-Ru.size) undef).getD t undef=Ru.getD t undef:=(by simp only[Qz];rw[Array.getElem?_append_left (by omega)]);rw[e1];exact hr.2 t ht
   .have e1:(Ru++Array.replicate (fn.ntmps-Ru.size) undef).getD t undef=undef:=(by simp only[Qz];rw[Array.getElem?_append_right (by omega),Array.getElem?_replicate];split<;>rfl);have e2:args.getD t Lv=Lv:=(by simp[List.getD,List.getElem?_eq_none (Nat.le_of_not_lt ht)]);rw[e1,e2];exact .undef _ _ _
  have hwp':=hwp none B0 K w _ fn.ntmps ⟨[],w.heap.size,false⟩ hst hok.2 (.inl ⟨rfl,rfl⟩);have pG:CallsIn Fence.wide 0 E.P f Ru w (nV E B0 Y K w v Y'):=by
   refine EF hfn hc trivial (bS.mono hwp' ?_);rintro ch a' w' ⟨K',⟨c,g1,g2,g3,g4⟩,bs,d1,d2,d3,_⟩;have d1':a'.defers=bs.map mark:=by rw[d1];exact Qu _
   rw[d1'];refine Ow (B1:=w.heap.size) hB K.D bs K' w' g4.ok (PD hB g4.below.size) d2 d3 g4.D (fun b hb=>lt_of_heap (hs.D b hb)) (fun w1 gy=>?_);have e1:Ext K' Y'.top w' {K' with D:=K.D} Y'.top w1:=(mX K' Y'.top w' K.D).trans gy.ext;exact⟨ch,{K' with D:=K.D},rfl,c,g1,g2.ext e1,g3,gy.ok,g4.ext.trans e1,g4.below.trans gy.below,fun _ h=>h,g4.A,g4.nI,g4.fU⟩
  exact pG
 .cases h
theorem Oy (hE:TU E):∀n,fq E (TG E n):=by
 have all:∀n m,m<=n->fq E (TG E m):=by
  intro n;induction n with
  |zero=>
   intro m hm;obtain rfl:m=0:=by omega
   exact⟨(fun _ _ _ _ _ h=>by cases h),(fun _ _ _ _ _ _ h=>by cases h)⟩
  |succ n ih=>
   intro m hm;by_cases hmn:m<=n
   .exact ih m hmn
   .obtain rfl:m=n+1:=(by omega);exact⟨fun c fr Y v Y' h=>Ov hE c n ih fr Y v Y' h,Ox (ih n (mF _))⟩
 exact fun n=>all n n (mF _)
end
end Aq
end
