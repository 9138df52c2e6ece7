import Derived.Test.YtabmooekodficaaGreatDoorF4414
import Derived.Test.YtabmooekodficaaGreatDoorF4416
set_option linter.all false
section
open Go Go.Proofs Aq
namespace Sh
set_option maxRecDepth 100000
def rT:Nat->Type
 |0=>Hood
 |1=>Graph
 |2=>ah
 |3=>bJ
 |4=>bR
 |5=>graph_space
 |6=>graph_search
 |7=>dh
 |8=>bG
 |_+9=>Unit
def rd:(n:Nat)->rT n
 |0=>(⟨0,[]⟩:Hood)
 |1=>(⟨[]⟩:Graph)
 |2=>(⟨0,0,0,0,0,0,0,0,0,0,0,0,0,0,0,0⟩:ah)
 |3=>(⟨[],0⟩:bJ)
 |4=>(⟨[],0⟩:bR)
 |5=>(⟨0,[]⟩:graph_space)
 |6=>(⟨⟨0,[]⟩,⟨[]⟩,[]⟩:graph_search)
 |7=>(⟨[],false⟩:dh)
 |8=>(⟨⟨0,0,0,0,0,0,0,0,0,0,0,0,0,0,0,0⟩,false⟩:bG)
 |_+9=>()
def rlf:Nat->List Ty
 |0=>[.int .i64,.slice (.int .i64)]
 |1=>[.slice (.st 0)]
 |2=>[.int .u8,.int .u8,.int .u8,.int .u8,.int .u8,.int .u8,.int .u8,.int .u8,.int .u8,.int .u8,.int .u8,.int .u8,.int .u8,.int .u8,.int .u8,.int .u8]
 |3=>[.slice (.st 2),.int .i64]
 |4=>[.slice (.st 2),.int .i64]
 |5=>[.int .i64,.slice (.slice (.int .i64))]
 |6=>[.int .i64,.slice (.slice (.int .i64)),.slice (.st 0),.slice (.int .i64)]
 |7=>[.slice (.st 2),.bool]
 |8=>[.int .u8,.int .u8,.int .u8,.int .u8,.int .u8,.int .u8,.int .u8,.int .u8,.int .u8,.int .u8,.int .u8,.int .u8,.int .u8,.int .u8,.int .u8,.int .u8,.bool]
 |_+9=>[]
def rto:(n:Nat)->PayT rT (rlf n)->rT n
 |0=>fun p=>(⟨p.1,p.2⟩:Hood)
 |1=>fun p=>(⟨p⟩:Graph)
 |2=>fun p=>(⟨p.1,p.2.1,p.2.2.1,p.2.2.2.1,p.2.2.2.2.1,p.2.2.2.2.2.1,p.2.2.2.2.2.2.1,p.2.2.2.2.2.2.2.1,p.2.2.2.2.2.2.2.2.1,p.2.2.2.2.2.2.2.2.2.1,p.2.2.2.2.2.2.2.2.2.2.1,p.2.2.2.2.2.2.2.2.2.2.2.1,p.2.2.2.2.2.2.2.2.2.2.2.2.1,p.2.2.2.2.2.2.2.2.2.2.2.2.2.1,p.2.2.2.2.2.2.2.2.2.2.2.2.2.2.1,p.2.2.2.2.2.2.2.2.2.2.2.2.2.2.2⟩:ah)
 |3=>fun p=>(⟨p.1,p.2⟩:bJ)
 |4=>fun p=>(⟨p.1,p.2⟩:bR)
 |5=>fun p=>(⟨p.1,p.2⟩:graph_space)
 |6=>fun p=>(⟨⟨p.1,p.2.1⟩,⟨p.2.2.1⟩,p.2.2.2⟩:graph_search)
 |7=>fun p=>(⟨p.1,p.2⟩:dh)
 |8=>fun p=>(⟨⟨p.1,p.2.1,p.2.2.1,p.2.2.2.1,p.2.2.2.2.1,p.2.2.2.2.2.1,p.2.2.2.2.2.2.1,p.2.2.2.2.2.2.2.1,p.2.2.2.2.2.2.2.2.1,p.2.2.2.2.2.2.2.2.2.1,p.2.2.2.2.2.2.2.2.2.2.1,p.2.2.2.2.2.2.2.2.2.2.2.1,p.2.2.2.2.2.2.2.2.2.2.2.2.1,p.2.2.2.2.2.2.2.2.2.2.2.2.2.1,p.2.2.2.2.2.2.2.2.2.2.2.2.2.2.1,p.2.2.2.2.2.2.2.2.2.2.2.2.2.2.2.1⟩,p.2.2.2.2.2.2.2.2.2.2.2.2.2.2.2.2⟩:bG)
 |_+9=>fun _=>()
def rof:(n:Nat)->rT n->PayT rT (rlf n)
 |0=>fun (x:Hood)=>(x.Radius,x.Slots)
 |1=>fun (x:Graph)=>(x.Hoods)
 |2=>fun (x:ah)=>(x.b0,x.b1,x.b2,x.b3,x.b4,x.b5,x.b6,x.b7,x.b8,x.b9,x.b10,x.b11,x.b12,x.b13,x.b14,x.b15)
 |3=>fun (x:bJ)=>(x.L,x.E)
 |4=>fun (x:bR)=>(x.L,x.E)
 |5=>fun (x:graph_space)=>(x.m,x.l)
 |6=>fun (x:graph_search)=>(x.space.m,x.space.l,x.g.Hoods,x.keyed)
 |7=>fun (x:dh)=>(x.l,x.short)
 |8=>fun (x:bG)=>(x.D.b0,x.D.b1,x.D.b2,x.D.b3,x.D.b4,x.D.b5,x.D.b6,x.D.b7,x.D.b8,x.D.b9,x.D.b10,x.D.b11,x.D.b12,x.D.b13,x.D.b14,x.D.b15,x.Ok)
 |_+9=>fun _=>()
def renc:(n:Nat)->rT n->V
 |0=>fun (x:Hood)=>Hood.v x
 |1=>fun (x:Graph)=>Graph.v x
 |2=>fun (x:ah)=>ah.v x
 |3=>fun (x:bJ)=>bJ.v x
 |4=>fun (x:bR)=>bR.v x
 |5=>fun (x:graph_space)=>graph_space.v x
 |6=>fun (x:graph_search)=>graph_search.v x
 |7=>fun (x:dh)=>dh.v x
 |8=>fun (x:bG)=>bG.v x
 |_+9=>fun _=>.agg []
def rty:List (Nat×Ty):=[(2,.int .i64),(3,.int .i64),(4,.bool),(5,.int .u8),(6,.int .u8),(9,.str),(10,.str),(11,.str),(12,.int .u64),(21,.int .i32),(22,.slice (.st 0)),(24,.st 1),(25,.slice (.int .i64)),(27,.st 0),(29,.st 2),(30,.slice (.st 2)),(33,.int .i64),(37,.st 3),(43,.slice (.slice (.int .i64))),(56,.st 4),(60,.slice (.int .u8)),(63,.slice .str),(66,.st 5),(75,.st 6),(89,.int .u32),(92,.int .u64),(106,.st 7),(111,.st 8),(128,.int .u64),(143,.slice (.int .u32)),(152,.int .i64),(165,.int .u64),(184,.int .u8),(185,.int .u8),(188,.int .i32),(189,.int .i32)]
def lC:Vec 64:=⟨[1116352408,1899447441,3049323471,3921009573,961987163,1508970993,2453635748,2870763221,3624381080,310598401,607225278,1426881987,1925078388,2162078206,2614888103,3248222580,3835390401,4022224774,264347078,604807628,770255983,1249150122,1555081692,1996064986,2554220882,2821834349,2952996808,3210313671,3336571891,3584528711,113926993,338241895,666307205,773529912,1294757372,1396182291,1695183700,1986661051,2177026350,2456956037,2730485921,2820302411,3259730800,3345764771,3516065817,3600352804,4094571909,275423344,430227734,506948616,659060556,883997877,958139571,1322822218,1537002063,1747873779,1955562222,2024104815,2227730452,2361852424,2428436474,2756734187,3204031479,3329325298],rfl⟩
def Z8 (g:Nat):Option ((k:IntKind)×(n:Nat)×Vec n):=bif Nat.ble g 1 then some ⟨.u32,64,lC⟩ else none
def R:Reg:={T:=rT,d:=rd,lf:=rlf,to:=rto,of:=rof,enc:=renc,ty:=fun t=>look rty t,gl:=Z8}
theorem rOK:RegOK R where
 of_to:=fun n p=>by
  match n,p with
  |0,p=>exact rfl
  |1,p=>exact rfl
  |2,p=>exact rfl
  |3,p=>exact rfl
  |4,p=>exact rfl
  |5,p=>exact rfl
  |6,p=>exact rfl
  |7,p=>exact rfl
  |8,p=>exact rfl
  |_+9,p=>exact rfl
 enc:=fun n x=>by
  match n,x with
  |0,x=>exact rfl
  |1,x=>exact rfl
  |2,x=>exact rfl
  |3,x=>exact rfl
  |4,x=>exact rfl
  |5,x=>exact rfl
  |6,x=>exact rfl
  |7,x=>exact rfl
  |8,x=>exact rfl
  |_+9,x=>exact rfl
 leaf:=fun n=>by
  match n with
  |0=>exact rfl
  |1=>exact rfl
  |2=>exact rfl
  |3=>exact rfl
  |4=>exact rfl
  |5=>exact rfl
  |6=>exact rfl
  |7=>exact rfl
  |8=>exact rfl
  |_+9=>exact rfl
 pc:=fun n x=>by
  match n,x with
  |0,x=>exact Hood.pc x
  |1,x=>exact Graph.pc x
  |2,x=>exact ah.pc x
  |3,x=>exact bJ.pc x
  |4,x=>exact bR.pc x
  |5,x=>exact graph_space.pc x
  |6,x=>exact graph_search.pc x
  |7,x=>exact dh.pc x
  |8,x=>exact bG.pc x
  |_+9,x=>exact(by simp[R,renc,pclean,pcleanL])
end Sh
end
section
open Go Go.Proofs Aq
namespace Sh
def iT:List V:=[.int .u32 1116352408,.int .u32 1899447441,.int .u32 3049323471,.int .u32 3921009573,.int .u32 961987163,.int .u32 1508970993,.int .u32 2453635748,.int .u32 2870763221,.int .u32 3624381080,.int .u32 310598401,.int .u32 607225278,.int .u32 1426881987,.int .u32 1925078388,.int .u32 2162078206,.int .u32 2614888103,.int .u32 3248222580,.int .u32 3835390401,.int .u32 4022224774,.int .u32 264347078,.int .u32 604807628,.int .u32 770255983,.int .u32 1249150122,.int .u32 1555081692,.int .u32 1996064986,.int .u32 2554220882,.int .u32 2821834349,.int .u32 2952996808,.int .u32 3210313671,.int .u32 3336571891,.int .u32 3584528711,.int .u32 113926993,.int .u32 338241895,.int .u32 666307205,.int .u32 773529912,.int .u32 1294757372,.int .u32 1396182291,.int .u32 1695183700,.int .u32 1986661051,.int .u32 2177026350,.int .u32 2456956037,.int .u32 2730485921,.int .u32 2820302411,.int .u32 3259730800,.int .u32 3345764771,.int .u32 3516065817,.int .u32 3600352804,.int .u32 4094571909,.int .u32 275423344,.int .u32 430227734,.int .u32 506948616,.int .u32 659060556,.int .u32 883997877,.int .u32 958139571,.int .u32 1322822218,.int .u32 1537002063,.int .u32 1747873779,.int .u32 1955562222,.int .u32 2024104815,.int .u32 2227730452,.int .u32 2361852424,.int .u32 2428436474,.int .u32 2756734187,.int .u32 3204031479,.int .u32 3329325298]
def globS (g:Nat):Option (List V):=bif Nat.beq g 1 then some iT else bif Nat.beq g 0 then some iT else none
end Sh
end
section
open Go Go.Proofs Aq
namespace Sh
theorem Iz {E E':Env} (hP:E'.P=E.P) (hg:∀g cs,E.glob g=some cs->E'.glob g=some cs) {f:FuncId} {args:List V} {v:V} (h:PureOK E f args v):PureOK E' f args v:=by
 obtain⟨h1,h2⟩:=h
 refine⟨by unfold rX at h1⊢;rw[hP];exact h1,fun I IM w cargs hl hr=>?_⟩
 rw[hP]
 exact h2 I IM w cargs ⟨hl.1,hl.2.1,fun g cs hh=>hl.2.2 g cs (hg g cs hh)⟩ hr
end Sh
end
section
open Go Go.Proofs Aq
namespace Sh
set_option maxRecDepth 100000
def dn (x k:Int):Int:=bitOr .u32 (bitShr .u32 x k) (bitShl .u32 x (IntKind.wrap .i64 (32-k)))
def IB (a b c d:Int):Int:=bitOr .u32 (bitOr .u32 (bitOr .u32 (bitShl .u32 (IntKind.wrap .u32 a) 24) (bitShl .u32 (IntKind.wrap .u32 b) 16)) (bitShl .u32 (IntKind.wrap .u32 c) 8)) (IntKind.wrap .u32 d)
def IC (x:List Int) (i:Int):Int:=IB (x.getD (4*i.toNat) 0) (x.getD (4*i.toNat+1) 0) (x.getD (4*i.toNat+2) 0) (x.getD (4*i.toNat+3) 0)
def Ci (w:Vec 64) (i:Int):Vec 64:=w.set i (IntKind.wrap .u32 (IntKind.wrap .u32 (IntKind.wrap .u32 (w.at' (i-16)+bitXor .u32 (bitXor .u32 (dn (w.at' (i-15)) 7) (dn (w.at' (i-15)) 18)) (bitShr .u32 (w.at' (i-15)) 3))+w.at' (i-7))+
 bitXor .u32 (bitXor .u32 (dn (w.at' (i-2)) 17) (dn (w.at' (i-2)) 19)) (bitShr .u32 (w.at' (i-2)) 10)))
def Cj (x:List Int) (w:Vec 64) (i:Int):Vec 64:=w.set i (IC x i)
def eO {α:Type} (f:α->Int->α):Nat->Int->α->α
 |0,_,w=>w
 |k+1,i,w=>eO f k (i+1) (f w i)
def qA (x:List Int):Vec 64:=eO Ci 48 16 (eO (Cj x) 16 0 (Vec.rep 64 0))
def tF (h a b c k w:Int):Int:=IntKind.wrap .u32 (IntKind.wrap .u32 (IntKind.wrap .u32 (IntKind.wrap .u32 (h+bitXor .u32 (bitXor .u32 (dn a 6) (dn a 11)) (dn a 25))+bitXor .u32 (bitAnd .u32 a b) (bitAnd .u32 (bitXor .u32 a 4294967295) c))+k)+w)
def uF (a b c:Int):Int:=IntKind.wrap .u32 (bitXor .u32 (bitXor .u32 (dn a 2) (dn a 13)) (dn a 22)+bitXor .u32 (bitXor .u32 (bitAnd .u32 a b) (bitAnd .u32 a c)) (bitAnd .u32 b c))
def yH (w:Vec 64) (s:Vec 8) (i:Int):Vec 8:=
 Vec.lit 8 [IntKind.wrap .u32 (tF (s.at' 7) (s.at' 4) (s.at' 5) (s.at' 6) (lC.at' i) (w.at' i)+uF (s.at' 0) (s.at' 1) (s.at' 2)),s.at' 0,s.at' 1,s.at' 2,IntKind.wrap .u32 (s.at' 3+tF (s.at' 7) (s.at' 4) (s.at' 5) (s.at' 6) (lC.at' i) (w.at' i)),s.at' 4,s.at' 5,s.at' 6]
def IE (v s:Vec 8) (i:Int):Vec 8:=s.set i (IntKind.wrap .u32 (s.at' i+v.at' i))
def lD (h:Vec 8) (x:List Int):Vec 8:=eO (IE (eO (yH (qA x)) 64 0 h)) 8 0 h
def foldB:Nat->Vec 8->List Int->Vec 8
 |0,h,_=>h
 |k+1,h,l=>foldB k (lD h (l.take 64)) (l.drop 64)
def IV:Vec 8:=Vec.lit 8 [1779033703,3144134277,1013904242,2773480762,1359893119,2600822924,528734635,1541459225]
def fK (l:List UInt8):List Int:=l.map fun b=>((b.toNat:Nat):Int)
def IG (c i:Int):Int:=IntKind.wrap .u8 (bitShr .u64 (IntKind.wrap .u64 (8*c)) (IntKind.wrap .i64 (56-IntKind.wrap .i64 (8*i))))
def mW (c:Int):Nat->Int->List Int
 |0,_=>[]
 |k+1,i=>IG c i::mW c k (i+1)
def zpad (c:Nat):Nat:=(55+64-c% 64)% 64
def jO (c:Nat):List Int:=([128]++List.replicate (zpad c) 0)++mW (c:Nat) 8 0
def II (h:Vec 8) (o:Vec 32) (i:Int):Vec 32:=o.set i (IntKind.wrap .u8 (bitShr .u32 (h.at' (IntKind.wrap .i64 (Int.tdiv i 4))) (IntKind.wrap .i64 (24-IntKind.wrap .i64 (8*Int.tmod i 4)))))
def Pn (h:Vec 8):Vec 32:=eO (II h) 32 0 (Vec.rep 32 0)
def yI (b:List Int):Vec 32:=Pn (foldB ((b.length+(1+zpad b.length+8))/64) IV (b++jO b.length))
def Po (h:Vec 32):ah:=⟨h.nth 0,h.nth 1,h.nth 2,h.nth 3,h.nth 4,h.nth 5,h.nth 6,h.nth 7,h.nth 8,h.nth 9,h.nth 10,h.nth 11,h.nth 12,h.nth 13,h.nth 14,h.nth 15⟩
def mX:Nat->Int->List Int
 |0,_=>[]
 |k+1,z=>if z>=128 then (z% 128+128)::mX k (z/128) else [z]
def jo (x:Int):Int:=if x<0 then 2*(-1-x)+1 else 2*x
def encI (x:Int):List Int:=mX 10 (jo x)
def bB (s:List UInt8):List Int:=encI (s.length:Nat)++fK s
def uy (t:Int) (ls:List (List UInt8)):List Int:=[IntKind.wrap .u8 t]++ls.flatMap bB
def fM (t:Int) (ls:List (List UInt8)):ah:=Po (yI (uy t ls))
def aY (d:ah):List UInt8:=List.map (fun n:Int=>UInt8.ofNat n.toNat) [d.b0,d.b1,d.b2,d.b3,d.b4,d.b5,d.b6,d.b7,d.b8,d.b9,d.b10,d.b11,d.b12,d.b13,d.b14,d.b15]
end Sh
end
section
open Go Go.Proofs Aq
namespace Sh
set_option maxRecDepth 100000
def zD:ah:=⟨0,0,0,0,0,0,0,0,0,0,0,0,0,0,0,0⟩
def dM (l:List ah):ah:=l.getLast?.getD zD
def lG (node:ah×ah->Option ah) (split:Int->Option Int) (leaf:ah):Nat->Int->Int->List ah->Bool->Option (ah×(List ah×Bool))
 |0,_,_,_,_=>none
 |g+1,i,n,l,sh=>bif n==1 then some (leaf,(l,sh)) else (split n).bind fun k=>
   bif decide (i<k) then (lG node split leaf g i k l.dropLast (sh||l.isEmpty)).bind fun r=>(node (r.1,dM l)).map fun x=>(x,r.2)
   else (lG node split leaf g (IntKind.wrap .i64 (i-k)) (IntKind.wrap .i64 (n-k)) l.dropLast (sh||l.isEmpty)).bind fun r=>(node (dM l,r.1)).map fun x=>(x,r.2)
noncomputable def lH (x y:ah):Bool:=(fO Tryz.prog 29 x.v y.v).getD false
noncomputable def uz (node:ah×ah->Option ah) (split:Int->Option Int) (leaf:ah) (i n:Int) (l:List ah) (root:ah):Option Bool:=
 bif decide (n<1)||decide (n>1099511627776)||decide (i<0)||decide (i>=n) then some false
 else (lG node split leaf n.toNat i n l false).map fun r=>lH r.1 root&& !r.2.2&& r.2.1.isEmpty
def oH (p:ah×ah):Option ah:=some (fM 31 [aY p.1,aY p.2])
def aJ (n:Nat):Nat:=2^Nat.log2 (n-1)
def kH (n:Int):Option Int:=if 2<=n/\n<=2^40 then some ((aJ n.toNat:Nat):Int) else none
noncomputable def chkF (leaf:ah) (i n:Int) (l:List ah) (root:ah):Option Bool:=if l.length<2^62 then uz oH kH leaf i n l root else none
theorem IJ (x y:ah) (h:ah.v x=ah.v y):x=y:=by
 cases x;cases y
 simpa [ah.v,ah.c] using h
theorem Pp:∀l m:List ah,l.map ah.v=m.map ah.v->l=m
 | [],[],_=>rfl
 | [],_::_,h=>by cases h
 |_::_,[],h=>by cases h
 |x::l,y::m,h=>by
  simp only[aez,afg] at h
  rw[IJ x y h.1,Pp l m h.2]
def lI (leaf:ah) (i n:Int) (l:List ah) (root:ah):List V:=[leaf.v,.int .i64 i,.int .i64 n,lv ah.v l,root.v]
theorem Z9 {leaf IK root root':ah} {i i' n n':Int} {l l':List ah} (h:lI leaf i n l root=lI IK i' n' l' root'):leaf=IK/\i=i'/\n=n'/\l=l'/\root=root':=by
 unfold lI at h
 simp only[afg,V.int.injEq,true_and,and_true] at h
 obtain⟨h1,h2,h3,h4,h5⟩:=h
 have h4:V.lst .sh (l.map ah.v)=V.lst .sh (l'.map ah.v):=h4
 simp only[V.lst.injEq,true_and] at h4
 exact⟨IJ _ _ h1,h2,h3,Pp _ _ h4,IJ _ _ h5⟩
section
variable (E0:Env)
def Pt (args:List V) (v:V):Prop:=∃leaf i n l root b,args=lI leaf i n l root/\chkF leaf i n l root=some b/\v= .bool b/\PureOK E0 32 args v
open Classical in
noncomputable def uD (args:List V):Option V:=if h:∃v,Pt E0 args v then some h.choose else none
theorem aac {args:List V} {v:V} (h:uD E0 args=some v):PureOK E0 32 args v:=by
 unfold uD at h
 split at h
 ·rename_i hx
  cases h
  obtain⟨_,_,_,_,_,_,_,_,_,h3⟩:=hx.choose_spec
  exact h3
 ·cases h
theorem aad {leaf root:ah} {i n:Int} {l:List ah} {b:Bool} (hb:chkF leaf i n l root=some b) (h:PureOK E0 32 (lI leaf i n l root) (.bool b)):uD E0 (lI leaf i n l root)=some (.bool b):=by
 have hx:∃v,Pt E0 (lI leaf i n l root) v:=⟨_,leaf,i,n,l,root,b,rfl,hb,rfl,h⟩
 unfold uD
 rw[dif_pos hx]
 obtain⟨IK,i',n',l',root',b',h1,h2,h3,_⟩:=hx.choose_spec
 obtain⟨rfl,rfl,rfl,rfl,rfl⟩:=Z9 h1
 rw[hb] at h2
 cases h2
 rw[h3]
end
end Sh
end
