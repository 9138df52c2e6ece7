import Derived.Test.YteniejlbjfigdaaGreatDoorF505
set_option linter.all false
section
namespace aR
open Go
def Is {J:Type}(a b:J):Prop:=a=b
theorem Is.rfl {J:Type}{a:J}:Is a a:=Eq.refl a
def iv (n:Int):V:=.int .i64 n
def lv {J:Type}(f:J->V)(l:List J):V:=.ak .sh (l.map f)
theorem afm {J:Type}{f:J->V}(h:∀x,aQ (f x)=true):∀l:List J,bQ (l.map f)=true
 | []=>by simp[bQ]|a::l=>by simp[bQ,h a,afm h l]
theorem LV {J:Type}{f:J->V}(h:∀x,aQ (f x)=true)(l:List J):aQ (.ak .sh (l.map f))=true:=by simp only[aQ];exact afm h l
theorem l7 {J:Type}{f:J->V}(h:∀x,aQ (f x)=true)(l:List J):aQ (lv f l)=true:=LV h l
theorem apd (n:Int):aQ (iv n)=true:=by simp[iv,aQ]
theorem mZ (l:List (List UInt8)):aQ (lv V.str l)=true:=l7 (fun _=>tF) l
theorem ng (l:List Int):aQ (lv iv l)=true:=l7 apd l
theorem nM (k:IntKind)(l:List Int):aQ (lv (V.int k) l)=true:=l7 (fun _=>tF) l
theorem nN (l:List Bool):aQ (lv V.bool l)=true:=l7 (fun _=>tF) l
attribute [go_sem] mZ ng nM nN
def aK {J:Type}(l:List J)(i:Int):Option J:=if 0<=i/\i<l.length then l[i.toNat]? else none
def xY (P:Program)(t:TypeId):Bool:=match P.underlying t with
 |some (.slice _)=>true|_=>false
def Wd (P:Program)(t:TypeId):Bool:=match P.underlying t with
 |some .string=>true|_=>false
section
variable {E:Env}{fr:Fr}{Z:ah}
def Ch (Q:Ex->Fr->ah->Prop)(fr:Fr)(Z:ah):Prop:=Q .normal fr Z
theorem Ch.i {Q:Ex->Fr->ah->Prop}(h:Q .normal fr Z):Ch Q fr Z:=h
theorem dG.n {b:Code}{Q:Ex->Fr->ah->Prop}(h:aD E b fr Z Q):dG E b Q .normal fr Z:=h
theorem dG.r {b:Code}{Q:Ex->Fr->ah->Prop}(h:Q .ret fr Z):dG E b Q .ret fr Z:=h
theorem aD.afn {id:Nat}{l:List Oper}{Q:Ex->Fr->ah->Prop}(h:∀k,dn E (nK l) l Z.next l fr (Z.bump k) [] (Ch Q))(he:qc l=true:=by rfl):aD E (.region id l.toArray true) fr Z Q:=aD.draw (ops:=l.toArray) he (h _)
theorem aD.vB {c:Operand}{a b:Code}{Q:Ex->Fr->ah->Prop}(hc:Is (fr.ev E c) (.bool true))(h:aD E a fr Z Q):aD E (.cond c a b) fr Z Q:=aD.cond hc (fun _=>h) (fun h=>bU)
theorem aD.xZ {c:Operand}{a b:Code}{Q:Ex->Fr->ah->Prop}(hc:Is (fr.ev E c) (.bool false))(h:aD E b fr Z Q):aD E (.cond c a b) fr Z Q:=aD.cond hc (fun h=>bU) (fun _=>h)
theorem av.o1 {all:List Oper}{st:Nat}{d:Tmp}{op:Op}{ty:TypeId}{pos:String}{bV:Array Edge}{gd:Option (Nat×Bool)}{os:List Oper}{v:V}{Z1:ah}{Q:Fr->ah->Prop}(hw:Is (fD all fr ⟨some d,op,ty,pos,bV,gd⟩) (some true))(hop:∀S,Is (opC E S fr Z st ⟨some d,op,ty,pos,bV,gd⟩) (some (v,fr,Z1)))(h:av E all (st+1) os (fr.set d v) Z1 Q):av E all st (⟨some d,op,ty,pos,bV,gd⟩::os) fr Z Q:=av.op hw hop h
theorem av.a1 {all:List Oper}{st:Nat}{d:Tmp}{op:Op}{ty:TypeId}{pos:String}{bV:Array Edge}{gd:Option (Nat×Bool)}{os:List Oper}{v:V}{Z1:ah}{Q:Fr->ah->Prop}(h:av E all (st+1) os (fr.set d v) Z1 Q)(hw:Is (fD all fr ⟨some d,op,ty,pos,bV,gd⟩) (some true):=by rfl)(hop:∀S,Is (opC E S fr Z st ⟨some d,op,ty,pos,bV,gd⟩) (some (v,fr,Z1)):=by intro S;simp only[go_sem,Nat.reduceBEq,Nat.reduceAdd, *];with_reducible exact Is.rfl):av E all st (⟨some d,op,ty,pos,bV,gd⟩::os) fr Z Q:=av.o1 hw hop h
theorem av.o0 {all:List Oper}{st:Nat}{op:Op}{ty:TypeId}{pos:String}{bV:Array Edge}{gd:Option (Nat×Bool)}{os:List Oper}{v:V}{Z1:ah}{Q:Fr->ah->Prop}(hw:Is (fD all fr ⟨none,op,ty,pos,bV,gd⟩) (some true))(hop:∀S,Is (opC E S fr Z st ⟨none,op,ty,pos,bV,gd⟩) (some (v,fr,Z1)))(h:av E all (st+1) os fr Z1 Q):av E all st (⟨none,op,ty,pos,bV,gd⟩::os) fr Z Q:=av.op hw hop h
theorem av.s1 {all:List Oper}{st:Nat}{d:Tmp}{op:Op}{ty:TypeId}{pos:String}{bV:Array Edge}{gd:Option (Nat×Bool)}{os:List Oper}{Q:Fr->ah->Prop}(hw:Is (fD all fr ⟨some d,op,ty,pos,bV,gd⟩) (some false))(h:av E all (st+1) os (fr.set d aJ) Z Q):av E all st (⟨some d,op,ty,pos,bV,gd⟩::os) fr Z Q:=av.skip hw h
theorem dn.o1 {ms:List Nat}{all:List Oper}{st:Nat}{d:Tmp}{op:Op}{ty:TypeId}{pos:String}{bV:Array Edge}{gd:Option (Nat×Bool)}{os:List Oper}{v:V}{Z1:ah}{fs:List dJ}{f:dJ}{Q:Fr->ah->Prop}(hw:Is (fD all fr ⟨some d,op,ty,pos,bV,gd⟩) (some true))(hop:∀S,Is (opC E S fr Z st ⟨some d,op,ty,pos,bV,gd⟩) (some (v,fr,Z1)))(hf:Is (dW E all fr ⟨some d,op,ty,pos,bV,gd⟩ true) f)(h:dn E ms all (st+1) os (fr.set d v) Z1 (fs++[f]) Q):dn E ms all st (⟨some d,op,ty,pos,bV,gd⟩::os) fr Z fs Q:=
 dn.op hw hop (by rw[hf];exact h)
theorem dn.o0 {ms:List Nat}{all:List Oper}{st:Nat}{op:Op}{ty:TypeId}{pos:String}{bV:Array Edge}{gd:Option (Nat×Bool)}{os:List Oper}{v:V}{Z1:ah}{fs:List dJ}{f:dJ}{Q:Fr->ah->Prop}(hw:Is (fD all fr ⟨none,op,ty,pos,bV,gd⟩) (some true))(hop:∀S,Is (opC E S fr Z st ⟨none,op,ty,pos,bV,gd⟩) (some (v,fr,Z1)))(hf:Is (dW E all fr ⟨none,op,ty,pos,bV,gd⟩ true) f)(h:dn E ms all (st+1) os fr Z1 (fs++[f]) Q):dn E ms all st (⟨none,op,ty,pos,bV,gd⟩::os) fr Z fs Q:=
 dn.op hw hop (by rw[hf];exact h)
theorem av.QX {all:List Oper}{st:Nat}{d:Option Tmp}{f:Operand}{args:Array Operand}{tys:Array TypeId}{ty:TypeId}{pos:String}{bV:Array Edge}{gd:Option (Nat×Bool)}{os:List Oper}{Q:Fr->ah->Prop}{g:FuncId}{a b cB:List V}{v:V}(hp:Pure E g cB v)(hf:Is (fr.ev E f) (.fn (.func g) a b))(has:Is ((a++args.toList.map (fr.ev E)++b).mapM (bg 20 Z)) (some cB))(hc:Is ((a++args.toList.map (fr.ev E)++b).all (fun x=>aQ (er x))||flat v) true)(hw:Is (fD all fr ⟨d,.call ⟨.value f,args,tys⟩,ty,pos,bV,gd⟩) (some true))(h:av E all (st+1) os (fr.put d v) Z Q)(hi:E.imp g=false:=by rfl)(eP:∀d',d=some d'->E.own g d'=false:=by intros;rfl):av E all st (⟨d,.call ⟨.value f,args,tys⟩,ty,pos,bV,gd⟩::os) fr Z Q:=
 av.call hw rfl rfl hf hi has hp hc h eP
theorem dn.QX {ms:List Nat}{fs:List dJ}{ft:dJ}{all:List Oper}{st:Nat}{d:Option Tmp}{f:Operand}{args:Array Operand}{tys:Array TypeId}{ty:TypeId}{pos:String}{bV:Array Edge}{gd:Option (Nat×Bool)}{os:List Oper}{Q:Fr->ah->Prop}{g:FuncId}{a b cB:List V}{v:V}(hp:Pure E g cB v)(hf:Is (fr.ev E f) (.fn (.func g) a b))(has:Is ((a++args.toList.map (fr.ev E)++b).mapM (bg 20 Z)) (some cB))(hc:Is ((a++args.toList.map (fr.ev E)++b).all (fun x=>aQ (er x))||flat v) true)(hw:Is (fD all fr ⟨d,.call ⟨.value f,args,tys⟩,ty,pos,bV,gd⟩) (some true))(hft:Is (dW E all fr ⟨d,.call ⟨.value f,args,tys⟩,ty,pos,bV,gd⟩ true) ft)(h:dn E ms all (st+1) os (fr.put d v) Z (fs++[ft]) Q)(hi:E.imp g=false:=by rfl)(eP:∀d',d=some d'->E.own g d'=false:=by intros;rfl):dn E ms all st (⟨d,.call ⟨.value f,args,tys⟩,ty,pos,bV,gd⟩::os) fr Z fs Q:=
 dn.call hw rfl rfl hf hi has hp hc (by rw[hft];exact h) eP
theorem pJ.one {r:ResultVar}{e:Ex}{v0:V}{R:V->ah->Prop}(he:∀i,e≠ .exit i)(hv:Is (jo E fr Z r) (some v0))(hr:R v0 Z):pJ E [r] R e fr Z:=by
 have h1:[r].mapM (jo E fr Z)=some [v0]:=by rw[iG,hv];rfl
 cases e with
 |exit i=>exact absurd rfl (he i)|normal=>exact⟨[v0],h1,hr⟩|ret=>exact⟨[v0],h1,hr⟩
theorem pJ.bK {rs:List ResultVar}{e:Ex}{v1 v2:V}{vs:List V}{R:V->ah->Prop}(he:∀i,e≠ .exit i)(hv:Is (rs.mapM (jo E fr Z)) (some (v1::v2::vs)))(hr:R (.bK (v1::v2::vs)) Z):pJ E rs R e fr Z:=by
 cases e with
 |exit i=>exact absurd rfl (he i)|normal=>exact⟨_,hv,hr⟩|ret=>exact⟨_,hv,hr⟩
theorem Pure.of' {f:FuncId}{args:List V}{v:V}{fn:Func}{c:Code}(rs:List ResultVar)(hf:E.P.funcs[f]? =some fn)(hb:fn.body=some c)(h:∀fr Z,fr.d=1->fr.aj=E.aj f->(∀i,fr.tm i=args.getD i aJ)->aD E c fr Z (pJ E rs (fun v0 Z=>bg 20 Z v0=some v)))(hrs:fn.results.toList=rs:=by rfl)(hok:(decide (args.length<=fn.ntmps)&& iD fn.ntmps c)=true:=by rfl)(hs:E.mV f=none:=by rfl):Pure E f args v:=
 Pure.of hs hf hb hok (by rw[hrs];exact h _ _ rfl rfl (fun _=>rfl))
theorem ni {n:Nat}{x:V}(h:aQ x=true):bg (n+1) Z x=some x:=by unfold bg;simp only[h,if_true]
theorem Wh (n:Nat)(k:IntKind)(i:Int):bg (n+1) Z (.int k i)=some (.int k i):=ni tF
theorem Wi (n:Nat)(b:Bool):bg (n+1) Z (.bool b)=some (.bool b):=ni tF
theorem Wj (n:Nat)(s:List UInt8):bg (n+1) Z (.str s)=some (.str s):=ni tF
theorem x9 {n:Nat}{J:Type}{f:J->V}(c:Cap)(l:List J)(h:∀x,aQ (f x)=true):bg (n+2) Z (.ak c (l.map f))=some (lv f l):=by
 by_cases hp:aQ (.ak c (l.map f))=true
 .rw[ni hp];cases c<;>simp only[aQ,bZ] at hp;rfl
 .unfold bg;simp only[hp,if_false,bZ];have:(l.map f).mapM (bg (n+1) Z)=some (l.map f):=by
   induction l with
   |nil=>simp|cons a l ih=>simp[h a,ni,ih (by cases c<;>simp_all[aQ,bQ])]
  rw[this];rfl
theorem ape (k:IntKind)(i:Int):er (.int k i)= .int k i:=rfl
theorem apf (b:Bool):er (.bool b)= .bool b:=rfl
theorem apg (s:List UInt8):er (.str s)= .str s:=rfl
theorem aph {J:Type}(f:J->V)(l:List J):er (lv f l)=lv f l:=rfl
theorem apj (c:Cap)(l:List V):er (.ak c l)= .ak .sh l:=rfl
theorem apk (n:Int):iv n= .int .i64 n:=rfl
theorem Wm (k:IntKind)(i:Int):aQ (.int k i)=true:=tF
theorem Wn (b:Bool):aQ (.bool b)=true:=tF
theorem afo (s:List UInt8):aQ (.str s)=true:=tF
theorem Wo {P:Program}{J:Type}{t:TypeId}{c:Cap}{l:List J}{f:J->V}{k:IntKind}{i:Int}:
 p9 P t (.ak c (l.map f)) (.int k i)=if xY P t then (lG P t).bind fun e=>(dF P e).bind fun sz=>(aK l i).bind fun x=>if (f x).cells.length=sz then some (.aX (f x).cells 0) else none else none:=by
 unfold p9 xY lG;cases hu:P.underlying t with
 |none=>rfl|some u=>
  cases u<;>try rfl
  rename_i e;simp only[if_true,Option.bind_some];cases dF P e with
  |none=>rfl|some sz=>
   simp only[Option.bind_some,idx,pG,eU,aK];split
   .rename_i h;simp only[Option.bind_some,List.getElem?_map];cases l[i.toNat]? with
    |none=>rfl|some x=>rfl
   .rfl
theorem apl {P:Program}{t:TypeId}{v:V}(h1:j5 P t=some false)(h2:dF P t=some 1):gV P t [v] 0=some v:=by simp[gV,h1,h2,q8]
theorem apm {t:TypeId}(c:Cap)(l:List V)(h:xY E.P t=true):uZ E Z t (.ak c l)=some l.length:=by
 unfold xY at h;unfold uZ;split at h
 .rename_i e he;rw[he]
 .simp at h
end
section
variable {E:Env}{S:iN}{fr:Fr}{Z:ah}{st:Nat}{d:Option Tmp}{ty:TypeId}{pos:String}{bV:Array Edge}{gd:Option (Nat×Bool)}
theorem apn (all:List Oper)(op:Op):fD all fr ⟨d,op,ty,pos,bV,none⟩=some true:=rfl
def Wp (want:Bool):V->Option Bool
 |.bool b=>some (b==want)|.raw _=>none|_=>some false
theorem apo (w b:Bool):Wp w (.bool b)=some (b==w):=rfl
theorem apq (w:Bool):Wp w aJ=some false:=rfl
theorem apr (all:List Oper)(op:Op)(j:Nat)(want:Bool):fD all fr ⟨d,op,ty,pos,bV,some (j,want)⟩=match (all[j]?).bind (·.dst) with
 |some t=>Wp want (fr.tm t)|none=>some false:=by
 simp only[fD];cases (all[j]?).bind (·.dst) with
 |none=>rfl|some t=>simp only;cases fr.tm t<;>rfl
theorem aps (cs:List V):V.cells (.agg cs)=cs:=rfl
theorem apt (k:IntKind)(n:Int):V.cells (.int k n)=[.int k n]:=rfl
theorem apu (k:IntKind)(n:Int):fC (.int k n)=true:=rfl
theorem apv (b:Bool):V.cells (.bool b)=[.bool b]:=rfl
theorem apw (b:Bool):fC (.bool b)=true:=rfl
theorem apx (s:List UInt8):V.cells (.str s)=[.str s]:=rfl
theorem apy (s:List UInt8):fC (.str s)=true:=rfl
theorem apz (c:Cap)(l:List V):V.cells (.ak c l)=[.ak c l]:=rfl
theorem apA (c:Cap)(l:List V):fC (.ak c l)=true:=rfl
theorem apB (l:aR.Loc)(s o:Nat):V.cells (.ref l s o)=[.ref l s o]:=rfl
theorem apC (l:aR.Loc)(s o:Nat):fC (.ref l s o)=true:=rfl
theorem apD (cs:List V)(o:Nat):V.cells (.aX cs o)=[.aX cs o]:=rfl
theorem apE (cs:List V)(o:Nat):fC (.aX cs o)=true:=rfl
theorem apF (f:Fn)(a b:List V):V.cells (.fn f a b)=[.fn f a b]:=rfl
theorem apG (f:Fn)(a b:List V):fC (.fn f a b)=true:=rfl
theorem apH {J:Type}(f:J->V)(l:List J):V.cells (lv f l)=[lv f l]:=rfl
theorem apI:bY []=true:=rfl
theorem afp (x:V)(l:List V):bY (x::l)=(oneCell x&& bY l):=rfl
theorem apJ (k:IntKind)(n:Int):oneCell (.int k n)=true:=rfl
theorem apK (b:Bool):oneCell (.bool b)=true:=rfl
theorem apL (s:List UInt8):oneCell (.str s)=true:=rfl
theorem apM {J:Type}(f:J->V)(l:List J):oneCell (lv f l)=true:=rfl
theorem apN (c:Cap)(l:List V):oneCell (.ak c l)=true:=rfl
theorem apO (l:aR.Loc)(s o:Nat):oneCell (.ref l s o)=true:=rfl
theorem apP (cs:List V)(o:Nat):oneCell (.aX cs o)=true:=rfl
theorem apQ (cs:List V):fC (.agg cs)=true:=rfl
theorem apR {J:Type}(f:J->V)(l:List J):fC (lv f l)=true:=rfl
theorem apS (x:Operand)(h:y7 E d=false):opC E S fr Z st ⟨d,.move x,ty,pos,bV,gd⟩=some (fr.ev E x,fr,Z):=by show Option.map _ (if y7 E d=true then xP Z (fr.ev E x) else some (fr.ev E x,Z))=_;rw[if_neg (by rw[h];simp)];rfl
theorem apT (x:Operand):opC E S fr Z st ⟨d,.assign x,ty,pos,bV,gd⟩=some (fr.ev E x,fr,Z):=rfl
theorem adG (c a b:Operand)(h:fr.ev E c= .bool true):opC E S fr Z st ⟨d,.pick c a b,ty,pos,bV,gd⟩=some (fr.ev E a,fr,Z):=by simp only[opC,dh,h,xO,Option.map_some,if_true]
theorem adF (c a b:Operand)(h:fr.ev E c= .bool false):opC E S fr Z st ⟨d,.pick c a b,ty,pos,bV,gd⟩=some (fr.ev E b,fr,Z):=by simp only[opC,dh,h,xO,Option.map_some,bZ,if_false]
theorem afq (op:BinOp)(t u:TypeId)(x y:Operand):opC E S fr Z st ⟨d,.binOp op t x y u,ty,pos,bV,gd⟩=(rZ E.P op t (fr.ev E x) (fr.ev E y)).map fun v=>(v,fr,Z):=by simp only[opC,dh];cases rZ E.P op t (fr.ev E x) (fr.ev E y)<;>rfl
theorem apU (op:UnOp)(t:TypeId)(x:Operand):opC E S fr Z st ⟨d,.unOp op t x,ty,pos,bV,gd⟩=(Eo op (fr.ev E x)).map fun v=>(v,fr,Z):=by simp only[opC,dh];cases Eo op (fr.ev E x)<;>rfl
theorem apV (t:TypeId)(x:Operand)(f:Nat):opC E S fr Z st ⟨d,.fieldAddr t x f,ty,pos,bV,gd⟩=(xL E.P t f).bind fun p=>match fr.ev E x with
 |.ref loc s off=>some (.ref loc s (off+p.1),fr,Z)|.aX cs off=>some (.aX cs (off+p.1),fr,Z)|_=>none:=by
 simp only[opC,dh];cases xL E.P t f with
 |none=>rfl|some p=>obtain⟨o,u⟩:=p;simp only[Option.bind_some];cases fr.ev E x<;>rfl
theorem apW (t:TypeId)(x:Operand):opC E S fr Z st ⟨d,.load t x,ty,pos,bV,gd⟩=(match fr.ev E x with
 |.ref loc s off=>(Z.dK loc s).bind fun cs=>(gV E.P t cs off).map fun v=>(v,fr,Z)
 |.aX cs off=>(gV E.P t cs off).map fun v=>(v,fr,Z)
 |_=>none):=by
 simp only[opC,dh];cases fr.ev E x with
 |ref loc s off=>
  simp only;cases Z.dK loc s with
  |none=>rfl|some cs=>simp only[Option.bind_some];cases gV E.P t cs off<;>rfl
 |aX cs off=>simp only;cases gV E.P t cs off<;>rfl|_=>rfl
theorem apX (t:TypeId)(x:Operand)(i:Nat):opC E S fr Z st ⟨some i,.box t x,ty,pos,bV,gd⟩=if tK E t (some i)=true then (if aQ (er (fr.ev E x))=true/\fC (fr.ev E x)=true then some (.aX (er (fr.ev E x)).cells 0,fr,Z) else none) else if bY (fr.ev E x).cells/\fC (fr.ev E x) then some (.ref (fr.d,i) st 0,fr,Z.setObj (fr.d,i) st (.cells (fr.ev E x).cells)) else none:=by
 show Option.map _ (if tK E t (some i)=true then _ else (some (fr.d,i)).bind _)=_;by_cases hz:tK E t (some i)=true
 .simp only[hz,if_true];split<;>rfl
 .simp only[hz,bZ,if_false,Option.bind_some];split<;>rfl
theorem apY (t:TypeId)(i:Nat):opC E S fr Z st ⟨some i,.alloc t,ty,pos,bV,gd⟩=(iM E.P t).bind fun z=>if bY z.cells then some (.ref (fr.d,i) st 0,fr,Z.setObj (fr.d,i) st (.cells z.cells)) else none:=by
 simp only[opC,dh,Option.map_some,Option.bind_some];cases iM E.P t with
 |none=>rfl|some z=>simp only[Option.bind_some];split<;>rfl
theorem apZ (t:TypeId)(a x:Operand):opC E S fr Z st ⟨d,.store t a x,ty,pos,bV,gd⟩=(match fr.ev E a with
 |.ref loc s off=>(Z.dK loc s).bind fun cs=>
  if some (fr.ev E x).cells.length=dF E.P t/\off+(fr.ev E x).cells.length<=cs.length/\bY (fr.ev E x).cells then some (aJ,fr,Z.setObj loc s (.cells (gI cs off (fr.ev E x).cells))) else none
 |_=>none):=by
 simp only[opC,dh];cases fr.ev E a with
 |ref loc s off=>
  simp only;cases Z.dK loc s with
  |none=>rfl|some cs=>simp only[Option.bind_some];split<;>rfl
 |_=>rfl
theorem ap0 (t:TypeId)(x i:Operand):opC E S fr Z st ⟨d,.indexAddr t x i,ty,pos,bV,gd⟩=(p9 E.P t (fr.ev E x) (fr.ev E i)).map fun v=>(v,fr,Z):=by simp only[opC,dh];cases p9 E.P t (fr.ev E x) (fr.ev E i)<;>rfl
theorem ap1 (x:Operand)(i:Nat):opC E S fr Z st ⟨d,.extract x i,ty,pos,bV,gd⟩=(match fr.ev E x with
 |.bK vs=>(vs[i]?).map fun v=>(v,fr,Z)
 |_=>none):=by
 simp only[opC,dh];cases fr.ev E x with
 |bK vs=>simp only;cases vs[i]? <;>rfl|_=>rfl
theorem ap2 (x:Operand)(t:TypeId):opC E S fr Z st ⟨d,.call ⟨.builtin .len, #[x], #[t]⟩,ty,pos,bV,gd⟩=(uZ E Z t (fr.ev E x)).map fun n=>(.int .i64 (n:Nat),fr,Z):=by show (Option.map _ (((#[t]:Array TypeId)[0]?).bind fun t=>(uZ E Z t (fr.ev E x)).map fun n=>(V.int .i64 (n:Nat),Z)))=_;rw[show (#[t]:Array TypeId)[0]? =some t from rfl,Option.bind_some];cases uZ E Z t (fr.ev E x)<;>rfl
end
attribute [go_sem] bZ rZ mI BM Eo decide_true decide_false List.getElem?_cons_succ List.getElem?_cons_zero beq_true beq_false Bool.not_true Bool.not_false V9 Bool.false_and Bool.and_false Bool.true_and Bool.and_true apn apr apo apq apS apT adG adF afq apU apV apW apX apY apZ ap0 ap1 ap2 Hf afi afj afh LP Cg QV EB ao4 ao5 ao6 ao7 su EC LU apa map_eq afl apb apc rE LQ QW ao8 ao9 apk apl apm Wo eU Wh Wi Wj ape apf apg aph apj Wm Wn afo Option.bind_some Option.map_some Option.getD_some xO ofValue kV if_true if_false aps apt apv apx apH apz apB apD apF apu apw apy apA apC apE apG apI afp apJ apK apL apM apN apO apP apQ apR and_self and_true true_and
def zi:Code->List Nat->Option Code
 |c,[]=>some c|.seq a b,i::l=>if i=0 then zi a l else zi b l|.cond _ a b,i::l=>if i=0 then zi a l else zi b l|.block _ a,_::l=>zi a l|.loop a,_::l=>zi a l|.scope a,_::l=>zi a l|.rangeFunc _ _ a b,i::l=>if i=0 then zi a l else zi b l|_,_=>none
def wM (b:Option Code)(l:List Nat):Option Code:=b.bind fun c=>zi c l
section
variable {E:Env}{fr:Fr}{Z:ah}
def QY (E:Env)(c:Code)(fr:Fr)(Z:ah)(Q:Ex->Fr->ah->Prop):Prop:=aD E (.loop c) fr Z Q
theorem aD.lp {c:Code}{Q:Ex->Fr->ah->Prop}(h:QY E c fr Z Q):aD E (.loop c) fr Z Q:=h
def LW:Code->Nat
 |.region i _ _=>i|.seq a _=>LW a|.loop a=>LW a|.scope a=>LW a|.block _ a=>LW a|_=>0
theorem QY.at (k:Nat){c:Code}{Q:Ex->Fr->ah->Prop}(_h:Is (LW c) k)(h:QY E c fr Z Q):QY E c fr Z Q:=h
theorem afr {n:Nat}(cs:List V):bg (n+2) Z (.agg cs)=(cs.mapM (bg (n+1) Z)).map .agg:=by
 by_cases hp:aQ (.agg cs)=true
 .rw[ni hp];have:∀cs:List V,bQ cs=true->cs.mapM (bg (n+1) Z)=some cs:=by
   intro cs;induction cs with
   |nil=>intro _;rfl|cons a l ih=>intro h;simp only[bQ,aZ] at h;rw[iG,ni h.1,ih h.2];rfl
  rw[this cs Bw];rfl
 .conv=>lhs;unfold bg
  simp only[hp,if_false,bZ]
theorem QZ {n:Nat}(cs:List V):bg (n+2) Z (.bK cs)=(cs.mapM (bg (n+1) Z)).map .bK:=by
 by_cases hp:aQ (.bK cs)=true
 .rw[ni hp];have:∀cs:List V,bQ cs=true->cs.mapM (bg (n+1) Z)=some cs:=by
   intro cs;induction cs with
   |nil=>intro _;rfl|cons a l ih=>intro h;simp only[bQ,aZ] at h;rw[iG,ni h.1,ih h.2];rfl
  rw[this cs Bw];rfl
 .conv=>lhs;unfold bg
  simp only[hp,if_false,bZ]
theorem aD.afs {id:Nat}{l:List Oper}{Q:Ex->Fr->ah->Prop}(h:∀k,k=l.length->dn E (nK l) l Z.next l fr (Z.bump k) [] (Ch Q))(he:qc l=true:=by rfl):aD E (.region id l.toArray true) fr Z Q:=aD.draw (ops:=l.toArray) he (h _ rfl)
def Q0 (sz:Nat)(Z:ah)(c:Cap)(n:Nat):Prop:=c= .nil\/∃s,c= .own sz s/\Z.top s=n/\s<Z.next
theorem ap3 {s n:Nat}(h:s<n):(s==n)=false:=dP
theorem ap4 {s n:Nat}(h:s<n):(n==s)=false:=dP
end
def Ci (P:Program)(Z:ah)(st:Nat)(t u:TypeId)(x y:V):Option (V×ah):=
 match P.underlying u with
 |some (.int _)=>ku P false true Z st none t x y|some (.slice _)|some .string=>ku P false false Z st none t x y|_=>none
theorem ap5 {P:Program}{z:Bool}{Z:ah}{st:Nat}{loc:Option Loc}{t:TypeId}{c:Cap}{l:List V}{y:V}:ku P false z Z st loc t (.ak c l) y=ku P false z Z st none t (.ak c l) y:=by
 unfold ku;cases lG P t with
 |none=>rfl|some e=>cases c<;>rfl
section
variable {E:Env}{S:iN}{fr:Fr}{Z:ah}{st:Nat}{d:Option Tmp}{ty:TypeId}{pos:String}{bV:Array Edge}{gd:Option (Nat×Bool)}
theorem Wq {t u:TypeId}{x y:Operand}{c:Cap}{l:List V}(ho:fr.aj=false)(hx:fr.ev E x= .ak c l):opC E S fr Z st ⟨d,.call ⟨.builtin .append, #[x,y], #[t,u]⟩,ty,pos,bV,gd⟩=(Ci E.P Z st t u (.ak c l) (fr.ev E y)).map fun p=>(p.1,fr,p.2):=by
 show Option.map _ ((((#[t,u]:Array TypeId)[0]?).bind fun t=>(((#[t,u]:Array TypeId)[1]?).bind E.P.underlying).bind fun u=>match u with
  |.int _=>ku E.P fr.aj true Z st (d.map fun t=>(fr.d,E.cn t)) t (fr.ev E x) (fr.ev E y)
  |.slice _|.string=>ku E.P fr.aj false Z st (d.map fun t=>(fr.d,E.cn t)) t (fr.ev E x) (fr.ev E y)
  |_=>none))=_
 show Option.map _ ((E.P.underlying u).bind _)=_;rw[ho,hx];unfold Ci;cases E.P.underlying u with
 |none=>rfl|some u=>
  cases u<;>try rfl
  all_goals (simp only[Option.bind_some];rw[ap5];first|rfl| (generalize ku _ _ _ _ _ _ _ _ _=o;cases o<;>rfl))
end
def ED (P:Program)(t u:TypeId)(sz gy:Nat)(z:V):Prop:=∃e ag,lG P t=some e/\dF P e=some sz/\wD P e=some gy/\j5 P e=some ag/\iM P e=some z/\z.cells.length=sz/\0<sz/\(ag||sz==1)=true/\xY P u=true
theorem ED.mk {P:Program}{t u:TypeId}{sz gy:Nat}{z:V}(e:TypeId)(ag:Bool)(h1:lG P t=some e)(h2:dF P e=some sz)(h3:wD P e=some gy)(h4:j5 P e=some ag)(h5:iM P e=some z)(h6:z.cells.length=sz)(h7:0<sz)(h8:(ag||sz==1)=true)(h9:xY P u=true):ED P t u sz gy z:=⟨e,ag,h1,h2,h3,h4,h5,h6,h7,h8,h9⟩
def wN (sz:Nat)(l:List V):Bool:=l.all fun v=>v.cells.length==sz&& bY v.cells
theorem ap6 {J:Type}{f:J->V}{sz:Nat}(h:∀x,(f x).cells.length=sz/\bY (f x).cells=true)(l:List J):wN sz (l.map f)=true:=by simp[wN,h]
theorem Cj {sz:Nat}{l:List V}(h:wN sz l=true):og sz l=true:=by
 cases l with
 |nil=>rfl|cons a l=>simp[wN] at h;simp[og,h.1.1]
theorem ap7 {sz:Nat}{l:List V}(h:wN sz l=true):l.all (fun v=>bY v.cells)=true:=by simp[wN] at h;simpa using fun x hx=>(h x hx).2
theorem aft {P:Program}{Z:ah}{st t u sz gy:Nat}{z:V}{x:V}{c2:Cap}{ys:List V}(ha:ED P t u sz gy z)(hy:wN sz ys=true):
 Ci P Z st t u x (.ak c2 ys)=match x with
 |.ak c l=>if cK (l.length+ys.length) gy=true/\og sz l=true then match c with
  |.own n s=>if n=sz/\Z.top s=l.length then some (.ak (.own n s) (l++ys),Z.dY s (l.length+ys.length)) else none|.nil|.full=>some (.ak (.own sz st) (l++ys),Z.dY st (l.length+ys.length))|_=>none else none
 |_=>Ci P Z st t u x (.ak c2 ys):=by
 obtain⟨e,ag,h1,h2,h3,h4,h5,h6,h7,h8,h9⟩:=ha;cases x<;>try rfl
 rename_i c l;unfold xY at h9;split at h9
 .rename_i e' he;simp only[Ci,he,ku,h1,h2,h3,h4,h5,Option.bind_some,yZ,true_and,if_pos (show z.cells.length=sz/\0<sz/\(ag||sz==1)=true from ⟨h6,h7,h8⟩),mU,Cj hy,if_true,ap7 hy];cases c<;>rfl
 .simp at h9
theorem ap8 {P:Program}{Z:ah}{st t u s sz gy:Nat}{z:V}{l:List V}{c2:Cap}{ys:List V}(ha:ED P t u sz gy z)(hy:wN sz ys=true)(hl:wN sz l=true)(hr:cK (l.length+ys.length) gy=true)(ht:Z.top s=l.length):Ci P Z st t u (.ak (.own sz s) l) (.ak c2 ys)=some (.ak (.own sz s) (l++ys),Z.dY s (l.length+ys.length)):=by
 rw[aft ha hy];simp only[hr,Cj hl,and_self,if_true,ht]
theorem ap9 {P:Program}{Z:ah}{st t u sz gy:Nat}{z:V}{l:List V}{c2:Cap}{ys:List V}(ha:ED P t u sz gy z)(hy:wN sz ys=true)(hl:wN sz l=true)(hr:cK (l.length+ys.length) gy=true):Ci P Z st t u (.ak .nil l) (.ak c2 ys)=some (.ak (.own sz st) (l++ys),Z.dY st (l.length+ys.length)):=by
 rw[aft ha hy];simp only[hr,Cj hl,and_self,if_true]
def Q5 (E:Env)(t:TypeId)(ps:List (Nat×V)):Option (List V):=(Gq E t).bind fun pl=>(iM E.P t).bind fun z=>rY pl z.cells ps
section
variable {E:Env}{S:iN}{fr:Fr}{Z:ah}{st:Nat}{d:Option Tmp}{ty:TypeId}{pos:String}{bV:Array Edge}{gd:Option (Nat×Bool)}
theorem aqa (t:TypeId)(l:List (Nat×Operand)):opC E S fr Z st ⟨d,.build t l.toArray,ty,pos,bV,gd⟩=(Q5 E t (l.map fun p=>(p.1,fr.ev E p.2))).map fun cs=>(.agg cs,fr,Z):=by
 simp only[opC,dh,Q5];cases Gq E t with
 |none=>rfl|some pl=>
  simp only[Option.bind_some];cases iM E.P t with
  |none=>rfl|some z=>simp only[Option.bind_some];cases rY pl z.cells (l.map fun p=>(p.1,fr.ev E p.2))<;>rfl
theorem aqb (t:TypeId)(n:Nat)(l:List (Nat×Operand))(h:Aj E d=false):opC E S fr Z st ⟨d,.buildSlice t n l.toArray,ty,pos,bV,gd⟩=(BN E t n (l.map fun p=>(p.1,fr.ev E p.2))).map fun v=>(v,fr,Z):=by unfold opC;dsimp only;unfold dh;dsimp only;rw[h,if_neg aB];cases BN E t n (l.map fun p=>(p.1,fr.ev E p.2))<;>rfl
end
section
variable {E:Env}{S:iN}{fr:Fr}{Z:ah}{st:Nat}{d:Option Tmp}{ty:TypeId}{pos:String}{bV:Array Edge}{gd:Option (Nat×Bool)}
theorem afu {P:Program}{t:TypeId}{s:List UInt8}{k:IntKind}{i:Int}(h:Wd P t=true):Er P t (.str s) (.int k i)=(aK s i).map fun b=>.int .u8 (b.toNat:Nat):=by
 unfold Wd at h;unfold Er;split at h
 .rename_i he;rw[he];simp only[idx,pG,Option.bind_some,aK];split
  .simp only[Option.bind_some];rfl
  .rfl
 .simp at h
def imax (a b:Int):Int:=if b>a then b else a
def wO (a b:Int):Int:=if b<a then b else a
end
theorem len1 (v:V):[v].length=1:=rfl
attribute [go_sem] afu ap3 ap4 afr QZ aqa aqb iA List.map_nil len1 Wq x9 implies_true eq_self
inductive Ty where
 |int (k:IntKind)
 |bool
 |str
 |slice (t:Ty)
 |st (n:Nat)
 deriving DecidableEq
inductive Cp where
 |any
 |sh
 |nil
 |full
 |own (t:Nat)
structure Vec (n:Nat) where
 l:List Int
 h:l.length=n
def Vec.at' {n:Nat}(v:Vec n)(i:Int):Int:=v.l.getD i.toNat 0
def Vec.nth {n:Nat}(v:Vec n)(j:Nat):Int:=v.l.getD j 0
def Vec.set {n:Nat}(v:Vec n)(i y:Int):Vec n:=⟨v.l.set i.toNat y,by rw[List.length_set,v.h]⟩
def Vec.rep (n:Nat)(y:Int):Vec n:=⟨List.replicate n y,List.length_replicate⟩
def Vec.lit (n:Nat)(l:List Int):Vec n:=if h:l.length=n then ⟨l,h⟩ else Vec.rep n 0
def Vec.slc {n:Nat}(v:Vec n)(i:Int)(m:Nat):Vec m:=Vec.lit m ((v.l.drop i.toNat).take m)
def Vec.wP {n:Nat}(v:Vec n)(lo:Int)(l:List Int):Vec n:=Vec.lit n (v.l.take lo.toNat++l++v.l.drop (lo.toNat+l.length))
inductive kY where
 |i (k:IntKind)
 |a (k:IntKind) (n:Nat)
inductive bS where
 |i (k:IntKind) (x:Int)
 |a (k:IntKind) (n:Nat) (v:Vec n)
def bS.w:bS->Nat
 |.i _ _=>1|.a _ n _=>n
def bS.vs:bS->List V
 |.i k x=>[.int k x]|.a k _ v=>v.l.map (V.int k)
def dN:List bS->List V
 | []=>[]|s::l=>s.vs++dN l
def kR:List bS->Nat
 | []=>0|s::l=>s.w+kR l
def Hg:kY->Type
 |.i _=>Int|.a _ n=>Vec n
def EF:List kY->Type
 | []=>Unit| [k]=>Hg k|k::h::l=>Hg k×EF (h::l)
def LX:(k:kY)->Hg k->bS
 |.i k,x=>.i k x|.a k n,x=>.a k n x
def yc:(l:List kY)->EF l->List bS
 | [],_=>[]| [k],x=>[LX k x]|k::h::l,p=>LX k p.1::yc (h::l) p.2
def Q6 {n m:Nat}(v:Vec n):Option (Vec m):=if h:n=m then some (h▸v) else none
def Hl:(k:kY)->bS->Option (Hg k)
 |.i k,.i k' x=>if k'=k then some x else none|.a k n,.a k' _ v=>if k'=k then Q6 (m:=n) v else none|_,_=>none
def dx:(l:List kY)->List bS->Option (EF l)
 | []=>fun vs=>match vs with
   | []=>some ()|_::_=>none
 | [k]=>fun vs=>match vs with
   | [v]=>Hl k v|_=>none
 |k::h::l=>fun vs=>match vs with
  | []=>none|v::vs=>match Hl k v with
   |some x=>match dx (h::l) vs with
    |some p=>some (x,p)|none=>none
   |none=>none
section
variable (T:Nat->Type)
def Den:Ty->Type
 |.int _=>Int|.bool=>Bool|.str=>List UInt8|.slice t=>List (Den t)|.st n=>T n
def qj:List Ty->Type
 | []=>Unit| [t]=>Den T t|t::u::l=>Den T t×qj (u::l)
inductive au where
 |int (k:IntKind) (n:Int)
 |bool (b:Bool)
 |jy (b:Bool)
 |str (s:List UInt8)
 |gU
 |gH
 |gP
 |iH
 |fE
 |agg (cs:List au)
 |bK (cs:List au)
 |ak (c:Cp) (t:Ty) (l:List (Den T t))
 |ref (o off:Nat)
 |aX (cs:List au) (off:Nat)
 |dQ (o:Nat)
 |eF (k e:Ty) (m:List (Den T k×Den T e))
 |fn (f:Nat) (a b:List au)
 |opt (j:Nat) (w:Bool) (v:au)
 |aU (o:Nat) (t:Ty)
 |sub (o:Nat) (t:Ty) (a b:Int)
 |l8 (o:Nat) (t:Ty) (i:Int) (off:Nat)
 |sg (ss:List bS)
 |sv (o off:Nat) (k:IntKind) (n:Nat) (lo hi:Option Int)
 |sel (o off:Nat) (k:IntKind) (n:Nat) (i:Int) (m:Nat)
 |vC (k:IntKind) (n:Nat) (v:Vec n) (i:Int)
 |undef
 |gone
inductive bI where
 |cells (cs:List (au T))
 |map (k e:Ty) (m:List (Den T k×Den T e))
 |smap (ks vs:List (au T))
 |arr (t:Ty) (l:List (Den T t))
 |sg (ss:List bS)
 |gone
 |ro (b:bI)
structure aM where
 fr:List (Nat×au T)
 ob:List (Nat×bI T)
inductive bR where
 |d (t:Ty)
 |l (c:Cp) (t:Ty)
 |agg (l:List bR)
 |ref (o off:Nat)
 |aX (l:List bR) (off:Nat)
 |dQ (o:Nat)
 |eF (k e:Ty)
 |fn (f:Nat) (a b:List bR)
 |fE
 |aU (o:Nat) (t:Ty)
 |sub (o:Nat) (t:Ty)
 |sg (l:List kY)
 |undef
mutual
def sw:bR->Type
 |.d t=>Den T t|.l _ t=>List (Den T t)|.agg l=>bB l|.ref _ _=>Unit|.aX l _=>bB l|.dQ _=>Unit|.eF k e=>List (Den T k×Den T e)|.fn _ a b=>bB a×bB b|.fE=>Unit|.aU _ _=>Unit|.sub _ _=>Int×Int|.sg l=>EF l|.undef=>Unit
def bB:List bR->Type
 | []=>Unit| [k]=>sw k|k::h::l=>sw k×bB (h::l)
end
inductive jA where
 |cells (l:List bR)
 |st (n:Nat)
 |map (k e:Ty)
 |arr (t:Ty)
 |sg (l:List kY)
def EG:jA->Type
 |.cells l=>bB T l|.st n=>T n|.map k e=>List (Den T k×Den T e)|.arr t=>List (Den T t)|.sg l=>EF l
def kZ:List (Nat×jA)->Type
 | []=>Unit| [(_,k)]=>EG T k| (_,k)::h::l=>EG T k×kZ (h::l)
def EH:List (Nat×bR)->Type
 | []=>Unit| [(_,k)]=>sw T k| (_,k)::h::l=>sw T k×EH (h::l)
structure Shape where
 sl:List (Nat×bR)
 ob:List (Nat×jA)
def wQ:Shape->Type
 | ⟨s,[]⟩=>EH T s| ⟨s,o::os⟩=>EH T s×kZ T (o::os)
def Out:List (Ex×Shape)->Type
 | []=>Empty| [(_,s)]=>wQ T s| (_,s)::h::l=>wQ T s⊕Out (h::l)
end
structure kE where
 T:Nat->Type
 d:(n:Nat)->T n
 lf:Nat->List Ty
 to:(n:Nat)->qj T (lf n)->T n
 of:(n:Nat)->T n->qj T (lf n)
 enc:(n:Nat)->T n->V
 ty:TypeId->Option Ty
 gl:Nat->Option ((k:IntKind)×(n:Nat)×Vec n)
structure iF (R:kE) where
 args:List bR
 res:List bR
 F:bB R.T args->Option (bB R.T res)
 d:bB R.T res
 own:Bool:=false
structure aqc (R:kE) where
 a:List bR
 b:List bR
 el:List bR
 F:bB R.T a->bB R.T b->Option (List (bB R.T el))
def F0:Nat:=1000000
structure qI (R:kE) where
 args:List bR
 obs:List (Nat×jA)
 res:List bR
 F:bB R.T args->kZ R.T obs->Option (bB R.T res×kZ R.T obs)
structure IR (R:kE) where
 it:Nat->List (aqc R)
 im:Nat->List (qI R)
structure Note where
 K:List Nat
 O:List Nat
 sh:Shape
 outs:List (Ex×Shape)
structure bP where
 loops:List (Nat×Note)
 joins:List (Nat×Note)
def look {J:Type}:List (Nat×J)->Nat->Option J
 | [],_=>none| (j,x)::l,i=>bif Nat.beq j i then some x else look l i
section
variable (R:kE)
def aO:(t:Ty)->Den R.T t->V
 |.int k=>fun n=>.int k n
 |.bool=>fun b=>.bool b
 |.str=>fun s=>.str s
 |.slice t=>fun l=>.ak .sh (l.map (aO t))
 |.st n=>fun x=>R.enc n x
def encs:(l:List Ty)->qj R.T l->List V
 | [],_=>[]| [t],x=>[aO R t x]|t::u::l,p=>aO R t p.1::encs (u::l) p.2
def dB:Ty->Nat
 |.st n=>(R.lf n).length|_=>1
def Ho:(t:Ty)->Den R.T t
 |.int _=>(0:Int)|.bool=>false|.str=>([]:List UInt8)|.slice t=>([]:List (Den R.T t))|.st n=>R.d n
def Ar (c:Cp):(t:Ty)->Den R.T t->au R.T
 |.int k=>fun n=>.int k n
 |.bool=>fun b=>.bool b
 |.str=>fun s=>.str s
 |.slice t=>fun l=>.ak c t l
 |.st _=>fun _=>.undef
def l9 (c:Cp):(l:List Ty)->qj R.T l->List (au R.T)
 | [],_=>[]| [t],x=>[Ar R c t x]|t::u::l,p=>Ar R c t p.1::l9 c (u::l) p.2
def iI (c:Cp):(t:Ty)->Den R.T t->au R.T
 |.st n=>fun x=>.agg (l9 R c (R.lf n) (R.of n x))
 |.int k=>fun n=>.int k n
 |.bool=>fun b=>.bool b
 |.str=>fun s=>.str s
 |.slice t=>fun l=>.ak c t l
def tY {t u:Ty}(l:List (Den R.T t)):Option (List (Den R.T u)):=if h:t=u then some (h▸l) else none
def Q7 (k:IntKind):au R.T->Option Int
 |.int k' n=>if k=k' then some n else none|_=>none
def Q8:au R.T->Option Bool
 |.bool b=>some b|.jy b=>some b|_=>none
def Q9:au R.T->Option (List UInt8)
 |.str s=>some s|_=>none
def EI (t:Ty):au R.T->Option (List (Den R.T t))
 |.ak _ _ l=>tY R l|.fE=>some []|_=>none
def tZ:(t:Ty)->au R.T->Option (Den R.T t)
 |.int k=>fun v=>Q7 R k v
 |.bool=>fun v=>Q8 R v
 |.str=>fun v=>Q9 R v
 |.slice t=>fun v=>EI R t v
 |.st _=>fun _=>none
def hd1:List (au R.T)->au R.T
 | [v]=>v|_=>.gone
def Ck:(l:List Ty)->List (au R.T)->Option (qj R.T l)
 | []=>fun vs=>match vs with
   | []=>some ()|_::_=>none
 | [t]=>fun vs=>tZ R t (hd1 R vs)
 |t::u::l=>fun vs=>match vs with
  | []=>none|v::vs=>match tZ R t v with
   |some x=>match Ck (u::l) vs with
    |some p=>some (x,p)|none=>none
   |none=>none
def EJ (n:Nat):au R.T->Option (R.T n)
 |.agg cs=>match Ck R (R.lf n) cs with
  |some p=>some (R.to n p)|none=>none
 |_=>none
def uf:(t:Ty)->au R.T->Option (Den R.T t)
 |.st n=>fun v=>EJ R n v
 |.int k=>fun v=>Q7 R k v
 |.bool=>fun v=>Q8 R v
 |.str=>fun v=>Q9 R v
 |.slice t=>fun v=>EI R t v
def au.cells {T:Nat->Type}:au T->List (au T)
 |.agg cs=>cs|v=>[v]
mutual
def nU {T:Nat->Type}(o:Nat):au T->Bool
 |.ref p _=>Nat.beq p o|.dQ p=>Nat.beq p o|.agg cs=>ql o cs|.bK cs=>ql o cs|.aX cs _=>ql o cs|.fn _ a b=>ql o a||ql o b|.opt _ _ v=>nU o v|.aU p _=>Nat.beq p o|.sub p _ _ _=>Nat.beq p o|.l8 p _ _ _=>Nat.beq p o|.sv p _ _ _ _ _=>Nat.beq p o|.sel p _ _ _ _ _=>Nat.beq p o|_=>false
def ql {T:Nat->Type}(o:Nat):List (au T)->Bool
 | []=>false|v::l=>nU o v||ql o l
end
def bI.nU {T:Nat->Type}(o:Nat):bI T->Bool
 |.cells cs=>ql o cs|.smap ks vs=>ql o ks||ql o vs|.ro b=>bI.nU o b|_=>false
mutual
def wk {T:Nat->Type}(t:Nat):au T->au T
 |.ak (.own u) ty l=>bif Nat.beq u t then .ak .any ty l else .ak (.own u) ty l|.agg cs=>.agg (zk t cs)|.bK cs=>.bK (zk t cs)|.aX cs off=>.aX (zk t cs) off|.fn f a b=>.fn f (zk t a) (zk t b)|.opt j w v=>.opt j w (wk t v)|v=>v
def zk {T:Nat->Type}(t:Nat):List (au T)->List (au T)
 | []=>[]|v::l=>wk t v::zk t l
end
def bI.wk {T:Nat->Type}(t:Nat):bI T->bI T
 |.cells cs=>.cells (zk t cs)|.smap ks vs=>.smap (zk t ks) (zk t vs)|.ro b=>.ro (bI.wk t b)|o=>o
def oJ {J:Type}(f:J->J):List (Nat×J)->List (Nat×J)
 | []=>[]| (i,x)::l=>(i,f x)::oJ f l
def j6 {J:Type}(i:Nat):List (Nat×J)->List (Nat×J)
 | []=>[]| (j,x)::l=>bif Nat.beq j i then j6 i l else (j,x)::j6 i l
def aM.wk {T:Nat->Type}(t:Nat)(st:aM T):aM T:=⟨oJ (aR.wk t) st.fr,oJ (bI.wk t) st.ob⟩
def Ws {T:Nat->Type}(j:Nat):au T->au T
 |.opt i w v=>bif Nat.beq i j then .gone else .opt i w v|v=>v
def aM.put {T:Nat->Type}(st:aM T)(i:Nat)(v:au T):aM T:={st with fr:=(i,v)::oJ (Ws i) (j6 i st.fr)}
def aM.gZ {T:Nat->Type}(st:aM T)(d:Option Nat)(v:au T):aM T:=match d with
 |some i=>st.put i v|none=>st
def Wt {T:Nat->Type}(j:Nat)(b:Bool):au T->au T
 |.opt i w v=>bif Nat.beq i j then (bif (b==w) then v else .undef) else .opt i w v|v=>v
def aM.learn {T:Nat->Type}(st:aM T)(j:Nat)(b:Bool):aM T:={st with fr:=(j,.jy b)::oJ (Wt j b) (j6 j st.fr)}
def aM.Hq {T:Nat->Type}(st:aM T)(c:Operand)(b:Bool):aM T:=match c with
 |.tmp j=>st.learn j b|_=>st
def EK {T:Nat->Type}(o:Nat)(v:au T):au T:=bif nU o v then .gone else v
def EL {T:Nat->Type}(o:Nat):List (au T)->List (au T)
 | []=>[]|v::l=>EK o v::EL o l
def bI.kill {T:Nat->Type}(o:Nat):bI T->bI T
 |.cells cs=>.cells (EL o cs)|v=>bif bI.nU o v then .gone else v
def aM.new {T:Nat->Type}(st:aM T)(o:Nat)(b:bI T):aM T:=⟨oJ (EK o) st.fr,(o,b)::oJ (bI.kill o) (j6 o st.ob)⟩
def aM.set {T:Nat->Type}(st:aM T)(o:Nat)(b:bI T):aM T:={st with ob:=(o,b)::j6 o st.ob}
def aM.del {T:Nat->Type}(st:aM T)(o:Nat):aM T:={st with ob:=j6 o st.ob}
def Wu {T:Nat->Type}:bI T->bI T
 |.ro b=>Wu b|b=>b
def oK {T:Nat->Type}(st:aM T)(o:Nat):Option (bI T):=match look st.ob o with
 |some b=>some (Wu b)|none=>none
def vD {T:Nat->Type}:bI T->Bool
 |.ro _=>true|.gone=>true|_=>false
def bL (i:Nat):List Nat->Bool
 | []=>false|j::l=>Nat.beq i j||bL i l
mutual
def solid {T:Nat->Type}(W:List Nat):au T->Bool
 |.ak (.own _) _ _=>false|.ref o _=>!(bL o W)|.dQ o=>!(bL o W)|.agg cs=>vE W cs|.bK cs=>vE W cs|.aX cs _=>vE W cs|.fn _ a b=>vE W a&& vE W b|.opt _ _ _=>false|.aU o _=>!(bL o W)|.sub o _ _ _=>!(bL o W)|.l8 o _ _ _=>!(bL o W)|.sv o _ _ _ _ _=>!(bL o W)|.sel o _ _ _ _ _=>!(bL o W)|.gone=>false|_=>true
def vE {T:Nat->Type}(W:List Nat):List (au T)->Bool
 | []=>true|v::l=>solid W v&& vE W l
end
def sD {T:Nat->Type}(W:List Nat):bI T->Bool
 |.cells cs=>vE W cs|.map _ _ _=>true|.smap ks vs=>vE W ks&& vE W vs|.arr _ _=>true|.sg _=>true|.ro b=>sD W b|.gone=>false
def sF {J:Type}(p:Nat->J->Bool)(f:J->J)(l:List (Nat×J)):List Nat->List (Nat×J)
 | []=>[]|i::is=>match look l i with
  |some x=>bif p i x then (i,f x)::sF p f l is else sF p f l is|none=>sF p f l is
def Wv {T:Nat->Type}:au T->au T
 |.ak (.own _) t l=>.ak .any t l|v=>v
def base {T:Nat->Type}(W K O:List Nat)(mark:bI T->bI T)(st:aM T):aM T:=
 ⟨sF (fun i v=>!(bL i W)&& solid W (Wv v)) Wv st.fr K,sF (fun o b=>!(bL o W)&& sD W b) mark st.ob O⟩
def aM.over {T:Nat->Type}(st b:aM T):aM T:=⟨st.fr++b.fr,st.ob++b.ob⟩
def EM {T:Nat->Type}:Value->Option (au T)
 |.bool b=>some (.jy b)|.int k n=>some (.int k n)|.string s=>some (.str s.data.toList)|.pointer none=>some .gU|.slice none 0 0=>some .fE|.map none=>some .gP|.nilFunc=>some .gH|.nilIface=>some .iH|_=>none
def Hr {T:Nat->Type}:List Value->Option (List (au T))
 | []=>some []|v::l=>match EM v with
  |some x=>match Hr l with
   |some y=>some (x::y)|none=>none
  |none=>none
def Ht {T:Nat->Type}:Value->Option (au T)
 |.agg cs=>match Hr cs.toList with
  |some l=>some (.agg l)|none=>none
 |v=>EM v
def Ra {T:Nat->Type}(g:List (Nat×Bool)):au T->Option (au T)
 |.opt j w v=>match look g j with
  |some u=>some (bif u==w then v else .undef)|none=>none
 |v=>some v
def cu {T:Nat->Type}(g:List (Nat×Bool))(st:aM T):Operand->Option (au T)
 |.tmp t=>match look st.fr t with
  |some v=>Ra g v|none=>none
 |.const v=>Ht v|.func f=>some (.fn f [] [])|.global _=>none
def qJ {T:Nat->Type}(g:List (Nat×Bool))(st:aM T):List Operand->Option (List (au T))
 | []=>some []|x::l=>match cu g st x with
  |some v=>match qJ g st l with
   |some vs=>some (v::vs)|none=>none
  |none=>none
def Hu {T:Nat->Type}(g:List (Nat×Bool))(st:aM T):List (Nat×Operand)->Option (List (Nat×au T))
 | []=>some []| (i,x)::l=>match cu g st x with
   |some v=>match Hu g st l with
    |some vs=>some ((i,v)::vs)|none=>none
   |none=>none
def sG:List bS->Nat->Option (List bS×List bS)
 |ss,0=>some ([],ss)| [],_+1=>none|s::ss,n+1=>bif Nat.ble s.w (n+1) then (match sG ss (n+1-s.w) with
  |some (a,b)=>some (s::a,b)|none=>none) else none
def Cm {T:Nat->Type}(k:IntKind):List (au T)->Option (List Int)
 | []=>some []|.int k' x::l=>if k'=k then (match Cm k l with
  |some xs=>some (x::xs)|none=>none) else none
 |_=>none
def Hw {J:Type}(l:List J):Option Int->Option Int->List J
 |none,none=>l|some i,none=>l.drop i.toNat|none,some j=>l.take j.toNat|some i,some j=>(l.take j.toNat).drop i.toNat
def Rb {T:Nat->Type}(st:aM T)(o off:Nat)(k:IntKind)(n:Nat)(lo hi:Option Int):Option (List Int):=
 match oK st o with
 |some (.sg ss)=>match sG ss off with
  |some (_,.a k' n' v::_)=>if k'=k then (bif Nat.beq n' n then some (Hw v.l lo hi) else none) else none|_=>none
 |some (.cells cs)=>bif Nat.ble (off+n) cs.length then (match Cm k ((cs.drop off).take n) with
  |some l=>some (Hw l lo hi)|none=>none) else none
 |_=>none
def EN {J:Type}(l:List J)(a b:Int):List J:=(l.take b.toNat).drop a.toNat
def yg {T:Nat->Type}(st:aM T):au T->au T
 |.ref o off=>match oK st o with
  |some (.cells cs)=>.aX cs off|_=>.ref o off
 |.dQ o=>match oK st o with
  |some (.map k e m)=>.eF k e m|_=>.dQ o
 |.aU o t=>match oK st o with
  |some (.arr t' l)=>if t'=t then .ak .sh t' l else .aU o t|_=>.aU o t
 |.sub o t a b=>match oK st o with
  |some (.arr t' l)=>if t'=t then .ak .sh t' (EN l a b) else .sub o t a b|_=>.sub o t a b
 |.sv o off k n lo hi=>match Rb st o off k n lo hi with
  |some l=>.ak .sh (.int k) l|none=>.sv o off k n lo hi
 |v=>v
def LY {T:Nat->Type}(st:aM T):List (au T)->List (au T)
 | []=>[]|v::l=>yg st v::LY st l
def EO {T:Nat->Type}(st:aM T):au T->au T
 |.fn f a b=>.fn f (LY st a) (LY st b)|.agg cs=>.agg (LY st cs)|v=>yg st v
def rF {T:Nat->Type}(st:aM T):List (au T)->List (au T)
 | []=>[]|v::l=>EO st v::rF st l
def Ww {T:Nat->Type}:au T->Bool
 |.agg _=>false|.sg _=>false|.bK _=>false|.gone=>false|.undef=>false|.opt _ _ _=>false|_=>true
def Cn {T:Nat->Type}:List (au T)->Bool
 | []=>true|v::l=>Ww v&& Cn l
def wR {T:Nat->Type}:au T->Bool
 |.gone=>false|.sg _=>false|.opt _ _ _=>false|_=>true
mutual
def pz {T:Nat->Type}:au T->Bool
 |.int _ _=>true|.bool _=>true|.jy _=>true|.str _=>true|.gU=>true|.gH=>true|.gP=>true|.iH=>true|.ak .sh _ _=>true|.agg cs=>zl cs|.bK cs=>zl cs|.eF _ _ _=>true|.aX cs _=>zl cs|.fn _ a b=>zl a&& zl b|.sg _=>true|_=>false
def zl {T:Nat->Type}:List (au T)->Bool
 | []=>true|v::l=>pz v&& zl l
end
def wS {T:Nat->Type}:au T->au T
 |.ak _ t l=>.ak .sh t l|v=>v
def LZ {T:Nat->Type}:List (au T)->List (au T)
 | []=>[]|v::l=>wS v::LZ l
def Co {T:Nat->Type}:au T->au T
 |.ak _ t l=>.ak .sh t l|.agg cs=>.agg (LZ cs)|v=>v
def L6 {T:Nat->Type}:au T->Bool
 |.ak _ _ _=>true|.fE=>true|v=>pz v
def Rc {T:Nat->Type}:List (au T)->Bool
 | []=>true|v::l=>L6 v&& Rc l
def afv {T:Nat->Type}:au T->Bool
 |.agg cs=>Rc cs|v=>L6 v
def Cq {T:Nat->Type}:List (au T)->Bool
 | []=>true|v::l=>afv v&& Cq l
mutual
def xI:bR->Bool
 |.d _=>true|.l c _=>match c with
  |.any=>true|.sh=>true|_=>false
 |.agg l=>lK l|.aX l _=>lK l|.eF _ _=>true|.fn _ a b=>lK a&& lK b|.sg _=>true|_=>false
def lK:List bR->Bool
 | []=>true|k::l=>xI k&& lK l
def dep:bR->Nat
 |.agg l=>vF l+3|.aX l _=>vF l+3|.fn _ a b=>max (vF a) (vF b)+3|_=>3
def vF:List bR->Nat
 | []=>0|k::l=>max (dep k) (vF l)
end
def Wx:Ty->Bool
 |.int _=>true|.bool=>true|.str=>true|_=>false
def Hy:List bR->Bool
 | []=>true|.d t::l=>Wx t&& Hy l|.sg _::l=>Hy l|_=>false
mutual
def encS:(k:bR)->sw R.T k->V
 |.d t,x=>aO R t x|.l _ t,x=>aO R (.slice t) x|.agg l,x=>.agg (dw l x)|.aX l off,x=>.aX (dw l x) off|.eF k e,x=>.eF (List.map (fun p=>aO R k p.1) x) (List.map (fun p=>aO R e p.2) x)
 |.fn f a b,x=>.fn (.func f) (dw a x.1) (dw b x.2)|.fE,_=>.ak .sh []|.ref _ _,_=>aJ|.dQ _,_=>aJ|.aU _ _,_=>aJ|.sub _ _,_=>aJ|.sg l,x=>.agg (dN (yc l x))|.undef,_=>aJ
def dw:(l:List bR)->bB R.T l->List V
 | [],_=>[]| [k],x=>[encS k x]|k::h::l,p=>encS k p.1::dw (h::l) p.2
end
def mJ:List V->V
 | [v]=>v|vs=>.bK vs
def Hz:Cp->Cp->Bool
 |_,.any=>true|.sh,.sh=>true|.nil,.nil=>true|.nil,.own _=>true|.full,.own _=>true|.full,.full=>true|.own t,.own u=>Nat.beq t u|_,_=>false
def Rf (c:Cp)(t:Ty):au R.T->Option (List (Den R.T t))
 |.ak c' _ l=>bif Hz c' c then tY R l else none|.fE=>bif Hz .nil c then some [] else none|_=>none
def HV {k e k' e':Ty}(m:List (Den R.T k'×Den R.T e')):Option (List (Den R.T k×Den R.T e)):=if h:k'=k/\e'=e then some (by rw[<-h.1,<-h.2];exact m) else none
mutual
def pk:(k:bR)->au R.T->Option (sw R.T k)
 |.d t=>fun v=>uf R t v
 |.l c t=>fun v=>Rf R c t v
 |.agg l=>fun v=>match v with
  |.agg cs=>jl l cs|_=>none
 |.ref o off=>fun v=>match v with
  |.ref p off'=>bif Nat.beq p o&& Nat.beq off' off then some () else none|_=>none
 |.aX l off=>fun v=>match v with
  |.aX cs off'=>bif Nat.beq off' off then jl l cs else none|_=>none
 |.dQ o=>fun v=>match v with
  |.dQ p=>bif Nat.beq p o then some () else none|_=>none
 |.eF k e=>fun v=>match v with
  |.eF _ _ m=>HV R m|_=>none
 |.fn f a b=>fun v=>match v with
  |.fn f' a' b'=>bif Nat.beq f' f then (match jl a a' with
   |some x=>match jl b b' with
    |some y=>some (x,y)|none=>none
   |none=>none) else none
  |_=>none
 |.fE=>fun v=>match v with
  |.fE=>some ()|_=>none
 |.aU o t=>fun v=>match v with
  |.aU p t'=>bif Nat.beq p o then (if t'=t then some () else none) else none|_=>none
 |.sub o t=>fun v=>match v with
  |.sub p t' a b=>bif Nat.beq p o then (if t'=t then some (a,b) else none) else none|_=>none
 |.sg l=>fun v=>match v with
  |.sg ss=>dx l ss|_=>none
 |.undef=>fun v=>match v with
  |.undef=>some ()|_=>none
def jl:(l:List bR)->List (au R.T)->Option (bB R.T l)
 | []=>fun vs=>match vs with
   | []=>some ()|_::_=>none
 | [k]=>fun vs=>match vs with
   | [v]=>pk k v|_=>none
 |k::h::l=>fun vs=>match vs with
  | []=>none|v::vs=>match pk k v with
   |some x=>match jl (h::l) vs with
    |some p=>some (x,p)|none=>none
   |none=>none
end
mutual
def up (c:Cp):(k:bR)->sw R.T k->au R.T
 |.d t,x=>iI R c t x|.l c t,x=>.ak c t x|.agg l,x=>.agg (jB c l x)|.ref o off,_=>.ref o off|.aX l off,x=>.aX (jB c l x) off|.dQ o,_=>.dQ o|.eF k e,x=>.eF k e x|.fn f a b,x=>.fn f (jB c a x.1) (jB c b x.2)|.fE,_=>.fE|.aU o t,_=>.aU o t|.sub o t,x=>.sub o t x.1 x.2|.sg l,x=>.sg (yc l x)|.undef,_=>.undef
def jB (c:Cp):(l:List bR)->bB R.T l->List (au R.T)
 | [],_=>[]| [k],x=>[up c k x]|k::h::l,p=>up c k p.1::jB c (h::l) p.2
end
def Cr:(k:jA)->bI R.T->Option (EG R.T k)
 |.cells l=>fun o=>match o with
  |.cells cs=>jl R l cs|_=>none
 |.st n=>fun o=>match o with
  |.cells cs=>EJ R n (.agg cs)|_=>none
 |.map k e=>fun o=>match o with
  |.map _ _ m=>HV R m|_=>none
 |.arr t=>fun o=>match o with
  |.arr _ l=>tY R l|_=>none
 |.sg l=>fun o=>match o with
  |.sg ss=>dx l ss|_=>none
def oL:(k:jA)->EG R.T k->bI R.T
 |.cells l,x=>.cells (jB R .any l x)|.st n,x=>.cells (l9 R .any (R.lf n) (R.of n x))|.map k e,x=>.map k e x|.arr t,x=>.arr t x|.sg l,x=>.sg (yc l x)
def vG (st:List (Nat×au R.T)):(l:List (Nat×bR))->Option (EH R.T l)
 | []=>some ()| [(i,k)]=>match look st i with
   |some v=>pk R k v|none=>none
 | (i,k)::h::l=>match look st i with
   |some v=>match pk R k v with
    |some x=>match vG st (h::l) with
     |some p=>some (x,p)|none=>none
    |none=>none
   |none=>none
def L8:(l:List (Nat×bR))->EH R.T l->List (Nat×au R.T)
 | [],_=>[]| [(i,k)],x=>[(i,up R .any k x)]| (i,k)::h::l,p=>(i,up R .any k p.1)::L8 (h::l) p.2
def oM (st:List (Nat×bI R.T)):(l:List (Nat×jA))->Option (kZ R.T l)
 | []=>some ()| [(i,k)]=>match look st i with
   |some v=>Cr R k v|none=>none
 | (i,k)::h::l=>match look st i with
   |some v=>match Cr R k v with
    |some x=>match oM st (h::l) with
     |some p=>some (x,p)|none=>none
    |none=>none
   |none=>none
def lM:(l:List (Nat×jA))->kZ R.T l->List (Nat×bI R.T)
 | [],_=>[]| [(i,k)],x=>[(i,oL R k x)]| (i,k)::h::l,p=>(i,oL R k p.1)::lM (h::l) p.2
def pack (st:aM R.T):(s:Shape)->Option (wQ R.T s)
 | ⟨s,[]⟩=>vG R st.fr s| ⟨s,o::os⟩=>match vG R st.fr s with
   |some x=>match oM R st.ob (o::os) with
    |some y=>some (x,y)|none=>none
   |none=>none
def HY {T:Nat->Type}:au T->Bool
 |.fE=>true|.ak .nil _ l=>l.isEmpty|.ak .full _ l=>l.isEmpty|_=>false
def ug {T:Nat->Type}(W:List Nat):List (Nat×bR)->aM T->aM T
 | [],st=>st| (i,.aU o t)::l,st=>match look st.fr i with
   |some v=>bif HY v&& bL o W then ug W l ⟨(i,.aU o t)::(st.new o (.arr t [])).fr,(st.new o (.arr t [])).ob⟩ else ug W l st|none=>ug W l st
 |_::l,st=>ug W l st
def sH (W:List Nat)(st:aM R.T)(s:Shape):Option (wQ R.T s):=pack R (ug W s.sl st) s
def unpack:(s:Shape)->wQ R.T s->aM R.T
 | ⟨s,[]⟩,x=>⟨L8 R s x,[]⟩| ⟨s,o::os⟩,x=>⟨L8 R s x.1,lM R (o::os) x.2⟩
def EP:Ex->Ex->Bool
 |.normal,.normal=>true|.ret,.ret=>true|.exit i,.exit j=>Nat.beq i j|_,_=>false
def ER (W:List Nat)(e:Ex)(st:aM R.T):(l:List (Ex×Shape))->Option (Out R.T l)
 | []=>none| [(x,s)]=>bif EP e x then sH R W st s else none| (x,s)::h::l=>bif EP e x then (match sH R W st s with
   |some p=>some (.inl p)|none=>none) else (match ER W e st (h::l) with
   |some p=>some (.inr p)|none=>none)
def ES {β:Type}(b:aM R.T)(k:Ex->aM R.T->Option β):(l:List (Ex×Shape))->Out R.T l->Option β
 | [],_=>none| [(x,s)],p=>k x (b.over (unpack R s p))| (x,s)::h::l,p=>Sum.elim (fun q=>k x (b.over (unpack R s q))) (fun q=>ES b k (h::l) q) p
end
end aR
end
