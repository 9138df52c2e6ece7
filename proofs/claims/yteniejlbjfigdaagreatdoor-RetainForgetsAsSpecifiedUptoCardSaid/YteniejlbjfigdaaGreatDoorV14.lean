/- Part of the proof of a law. -/
import Derived.KernelRfl
import Derived.Test.YteniejlbjfigdaaGreatDoorV07
import Derived.Test.YteniejlbjfigdaaGreatDoorV13
set_option linter.all false
set_option linter.unusedSimpArgs false
set_option linter.unusedSectionVars false
section
open Go Go.Proofs Aq
namespace Sh
set_option maxRecDepth 100000
def rT:Nat→Type
 |0=>Def
 |1=>aF
 |2=>Attr
 |3=>Entry
 |4=>Row
 |5=>Book
 |6=>au
 |7=>Gone
 |8=>Pred
 |9=>Law
 |10=>fF
 |11=>Snapshot
 |12=>fA
 |13=>Event
 |14=>Query
 |15=>iH
 |16=>dH
 |17=>gF
 |18=>aU
 |19=>iI
 |20=>iJ
 |21=>bQ
 |_+22=>Unit
def rd:(n:Nat)→rT n
 |0=>(⟨[],0,0,0,[]⟩:Def)
 |1=>(⟨0,0,[]⟩:aF)
 |2=>(⟨[],0,0,[]⟩:Attr)
 |3=>(⟨0,0,0,0,0,0,0,[],[]⟩:Entry)
 |4=>(⟨⟨0,0,0,0,0,0,0,[],[]⟩,0⟩:Row)
 |5=>(⟨⟨0,0,[]⟩,0,0,[],[]⟩:Book)
 |6=>(⟨0,0,0,0,0,0,0,0,0,0,0,0,0,0,0,0⟩:au)
 |7=>(⟨0,0,0,0,⟨0,0,0,0,0,0,0,0,0,0,0,0,0,0,0,0⟩⟩:Gone)
 |8=>(⟨0,[],0,0,[],[]⟩:Pred)
 |9=>(⟨[],⟨0,[],0,0,[],[]⟩,0⟩:Law)
 |10=>(⟨⟨⟨0,0,[]⟩,0,0,[],[]⟩,[],0⟩:fF)
 |11=>(⟨0,0⟩:Snapshot)
 |12=>(⟨[],0⟩:fA)
 |13=>(⟨0,0,0,0,0,0,0,[],[],⟨0,0,0,0,0,0,0,0,0,0,0,0,0,0,0,0⟩⟩:Event)
 |14=>(⟨[],0,0,⟨0,[],0,0,[],[]⟩,⟨0,0⟩,0⟩:Query)
 |15=>(⟨0,0,0⟩:iH)
 |16=>(⟨⟨⟨0,0,[]⟩,0,0,[],[]⟩,0,0⟩:dH)
 |17=>(⟨[],0⟩:gF)
 |18=>(⟨⟨⟨0,0,[]⟩,0,0,[],[]⟩,0⟩:aU)
 |19=>(⟨[],false⟩:iI)
 |20=>(⟨⟨[],0,0,[]⟩,false⟩:iJ)
 |21=>(⟨0,0⟩:bQ)
 |_+22=>()
def Ws:Nat→List Ty
 |0=>[.str,.int .i64,.int .i64,.int .i64,.slice .str]
 |1=>[.int .i64,.int .i64,.slice (.st 0)]
 |2=>[.str,.int .i64,.int .i64,.str]
 |3=>[.int .i64,.int .i64,.int .i64,.int .i64,.int .i64,.int .i64,.int .i64,.slice (.int .i64),.slice (.st 2)]
 |4=>[.int .i64,.int .i64,.int .i64,.int .i64,.int .i64,.int .i64,.int .i64,.slice (.int .i64),.slice (.st 2),.int .i64]
 |5=>[.int .i64,.int .i64,.slice (.st 0),.int .i64,.int .i64,.slice (.int .i64),.slice (.st 4)]
 |6=>[.int .u8,.int .u8,.int .u8,.int .u8,.int .u8,.int .u8,.int .u8,.int .u8,.int .u8,.int .u8,.int .u8,.int .u8,.int .u8,.int .u8,.int .u8,.int .u8]
 |7=>[.int .i64,.int .i64,.int .i64,.int .i64,.int .u8,.int .u8,.int .u8,.int .u8,.int .u8,.int .u8,.int .u8,.int .u8,.int .u8,.int .u8,.int .u8,.int .u8,.int .u8,.int .u8,.int .u8,.int .u8]
 |8=>[.int .i64,.str,.int .i64,.int .i64,.str,.slice (.st 8)]
 |9=>[.str,.int .i64,.str,.int .i64,.int .i64,.str,.slice (.st 8),.int .i64]
 |10=>[.int .i64,.int .i64,.slice (.st 0),.int .i64,.int .i64,.slice (.int .i64),.slice (.st 4),.slice (.st 7),.int .i64]
 |11=>[.int .i64,.int .i64]
 |12=>[.slice (.st 6),.int .i64]
 |13=>[.int .i64,.int .i64,.int .i64,.int .i64,.int .i64,.int .i64,.int .i64,.slice (.int .i64),.slice (.st 2),.int .u8,.int .u8,.int .u8,.int .u8,.int .u8,.int .u8,.int .u8,.int .u8,.int .u8,.int .u8,.int .u8,.int .u8,.int .u8,.int .u8,.int .u8,.int .u8]
 |14=>[.slice (.int .i64),.int .i64,.int .i64,.int .i64,.str,.int .i64,.int .i64,.str,.slice (.st 8),.int .i64,.int .i64,.int .i64]
 |15=>[.int .i64,.int .i64,.int .i64]
 |16=>[.int .i64,.int .i64,.slice (.st 0),.int .i64,.int .i64,.slice (.int .i64),.slice (.st 4),.int .i64,.int .i64]
 |17=>[.slice (.st 6),.int .i64]
 |18=>[.int .i64,.int .i64,.slice (.st 0),.int .i64,.int .i64,.slice (.int .i64),.slice (.st 4),.int .i64]
 |19=>[.slice (.st 6),.bool]
 |20=>[.str,.int .i64,.int .i64,.str,.bool]
 |21=>[.int .i64,.int .i64]
 |_+22=>[]
def rto:(n:Nat)→mO rT (Ws n)→rT n
 |0=>fun p=>(⟨p.1,p.2.1,p.2.2.1,p.2.2.2.1,p.2.2.2.2⟩:Def)
 |1=>fun p=>(⟨p.1,p.2.1,p.2.2⟩:aF)
 |2=>fun p=>(⟨p.1,p.2.1,p.2.2.1,p.2.2.2⟩:Attr)
 |3=>fun p=>(⟨p.1,p.2.1,p.2.2.1,p.2.2.2.1,p.2.2.2.2.1,p.2.2.2.2.2.1,p.2.2.2.2.2.2.1,p.2.2.2.2.2.2.2.1,p.2.2.2.2.2.2.2.2⟩:Entry)
 |4=>fun p=>(⟨⟨p.1,p.2.1,p.2.2.1,p.2.2.2.1,p.2.2.2.2.1,p.2.2.2.2.2.1,p.2.2.2.2.2.2.1,p.2.2.2.2.2.2.2.1,p.2.2.2.2.2.2.2.2.1⟩,p.2.2.2.2.2.2.2.2.2⟩:Row)
 |5=>fun p=>(⟨⟨p.1,p.2.1,p.2.2.1⟩,p.2.2.2.1,p.2.2.2.2.1,p.2.2.2.2.2.1,p.2.2.2.2.2.2⟩:Book)
 |6=>fun p=>(⟨p.1,p.2.1,p.2.2.1,p.2.2.2.1,p.2.2.2.2.1,p.2.2.2.2.2.1,p.2.2.2.2.2.2.1,p.2.2.2.2.2.2.2.1,p.2.2.2.2.2.2.2.2.1,p.2.2.2.2.2.2.2.2.2.1,p.2.2.2.2.2.2.2.2.2.2.1,p.2.2.2.2.2.2.2.2.2.2.2.1,p.2.2.2.2.2.2.2.2.2.2.2.2.1,p.2.2.2.2.2.2.2.2.2.2.2.2.2.1,p.2.2.2.2.2.2.2.2.2.2.2.2.2.2.1,p.2.2.2.2.2.2.2.2.2.2.2.2.2.2.2⟩:au)
 |7=>fun p=>(⟨p.1,p.2.1,p.2.2.1,p.2.2.2.1,⟨p.2.2.2.2.1,p.2.2.2.2.2.1,p.2.2.2.2.2.2.1,p.2.2.2.2.2.2.2.1,p.2.2.2.2.2.2.2.2.1,p.2.2.2.2.2.2.2.2.2.1,p.2.2.2.2.2.2.2.2.2.2.1,p.2.2.2.2.2.2.2.2.2.2.2.1,p.2.2.2.2.2.2.2.2.2.2.2.2.1,p.2.2.2.2.2.2.2.2.2.2.2.2.2.1,p.2.2.2.2.2.2.2.2.2.2.2.2.2.2.1,p.2.2.2.2.2.2.2.2.2.2.2.2.2.2.2.1,p.2.2.2.2.2.2.2.2.2.2.2.2.2.2.2.2.1,p.2.2.2.2.2.2.2.2.2.2.2.2.2.2.2.2.2.1,p.2.2.2.2.2.2.2.2.2.2.2.2.2.2.2.2.2.2.1,p.2.2.2.2.2.2.2.2.2.2.2.2.2.2.2.2.2.2.2⟩⟩:Gone)
 |8=>fun p=>(⟨p.1,p.2.1,p.2.2.1,p.2.2.2.1,p.2.2.2.2.1,p.2.2.2.2.2⟩:Pred)
 |9=>fun p=>(⟨p.1,⟨p.2.1,p.2.2.1,p.2.2.2.1,p.2.2.2.2.1,p.2.2.2.2.2.1,p.2.2.2.2.2.2.1⟩,p.2.2.2.2.2.2.2⟩:Law)
 |10=>fun p=>(⟨⟨⟨p.1,p.2.1,p.2.2.1⟩,p.2.2.2.1,p.2.2.2.2.1,p.2.2.2.2.2.1,p.2.2.2.2.2.2.1⟩,p.2.2.2.2.2.2.2.1,p.2.2.2.2.2.2.2.2⟩:fF)
 |11=>fun p=>(⟨p.1,p.2⟩:Snapshot)
 |12=>fun p=>(⟨p.1,p.2⟩:fA)
 |13=>fun p=>(⟨p.1,p.2.1,p.2.2.1,p.2.2.2.1,p.2.2.2.2.1,p.2.2.2.2.2.1,p.2.2.2.2.2.2.1,p.2.2.2.2.2.2.2.1,p.2.2.2.2.2.2.2.2.1,⟨p.2.2.2.2.2.2.2.2.2.1,p.2.2.2.2.2.2.2.2.2.2.1,p.2.2.2.2.2.2.2.2.2.2.2.1,p.2.2.2.2.2.2.2.2.2.2.2.2.1,p.2.2.2.2.2.2.2.2.2.2.2.2.2.1,p.2.2.2.2.2.2.2.2.2.2.2.2.2.2.1,p.2.2.2.2.2.2.2.2.2.2.2.2.2.2.2.1,p.2.2.2.2.2.2.2.2.2.2.2.2.2.2.2.2.1,p.2.2.2.2.2.2.2.2.2.2.2.2.2.2.2.2.2.1,p.2.2.2.2.2.2.2.2.2.2.2.2.2.2.2.2.2.2.1,p.2.2.2.2.2.2.2.2.2.2.2.2.2.2.2.2.2.2.2.1,p.2.2.2.2.2.2.2.2.2.2.2.2.2.2.2.2.2.2.2.2.1,p.2.2.2.2.2.2.2.2.2.2.2.2.2.2.2.2.2.2.2.2.2.1,p.2.2.2.2.2.2.2.2.2.2.2.2.2.2.2.2.2.2.2.2.2.2.1,p.2.2.2.2.2.2.2.2.2.2.2.2.2.2.2.2.2.2.2.2.2.2.2.1,p.2.2.2.2.2.2.2.2.2.2.2.2.2.2.2.2.2.2.2.2.2.2.2.2⟩⟩:Event)
 |14=>fun p=>(⟨p.1,p.2.1,p.2.2.1,⟨p.2.2.2.1,p.2.2.2.2.1,p.2.2.2.2.2.1,p.2.2.2.2.2.2.1,p.2.2.2.2.2.2.2.1,p.2.2.2.2.2.2.2.2.1⟩,⟨p.2.2.2.2.2.2.2.2.2.1,p.2.2.2.2.2.2.2.2.2.2.1⟩,p.2.2.2.2.2.2.2.2.2.2.2⟩:Query)
 |15=>fun p=>(⟨p.1,p.2.1,p.2.2⟩:iH)
 |16=>fun p=>(⟨⟨⟨p.1,p.2.1,p.2.2.1⟩,p.2.2.2.1,p.2.2.2.2.1,p.2.2.2.2.2.1,p.2.2.2.2.2.2.1⟩,p.2.2.2.2.2.2.2.1,p.2.2.2.2.2.2.2.2⟩:dH)
 |17=>fun p=>(⟨p.1,p.2⟩:gF)
 |18=>fun p=>(⟨⟨⟨p.1,p.2.1,p.2.2.1⟩,p.2.2.2.1,p.2.2.2.2.1,p.2.2.2.2.2.1,p.2.2.2.2.2.2.1⟩,p.2.2.2.2.2.2.2⟩:aU)
 |19=>fun p=>(⟨p.1,p.2⟩:iI)
 |20=>fun p=>(⟨⟨p.1,p.2.1,p.2.2.1,p.2.2.2.1⟩,p.2.2.2.2⟩:iJ)
 |21=>fun p=>(⟨p.1,p.2⟩:bQ)
 |_+22=>fun _=>()
def rof:(n:Nat)→rT n→mO rT (Ws n)
 |0=>fun (x:Def)=>(x.Name,x.Kind,x.Lo,x.Hi,x.Words)
 |1=>fun (x:aF)=>(x.gq,x.iG,x.Defs)
 |2=>fun (x:Attr)=>(x.Name,x.Kind,x.N,x.S)
 |3=>fun (x:Entry)=>(x.ID,x.bU,x.dY,x.fQ,x.From,x.To,x.dJ,x.Vec,x.aI)
 |4=>fun (x:Row)=>(x.Entry.ID,x.Entry.bU,x.Entry.dY,x.Entry.fQ,x.Entry.From,x.Entry.To,x.Entry.dJ,x.Entry.Vec,x.Entry.aI,x.dF)
 |5=>fun (x:Book)=>(x.aF.gq,x.aF.iG,x.aF.Defs,x.aH,x.Day,x.dn,x.Rows)
 |6=>fun (x:au)=>(x.b0,x.b1,x.b2,x.b3,x.b4,x.b5,x.b6,x.b7,x.b8,x.b9,x.b10,x.b11,x.b12,x.b13,x.b14,x.b15)
 |7=>fun (x:Gone)=>(x.ID,x.bU,x.dJ,x.dF,x.Leaf.b0,x.Leaf.b1,x.Leaf.b2,x.Leaf.b3,x.Leaf.b4,x.Leaf.b5,x.Leaf.b6,x.Leaf.b7,x.Leaf.b8,x.Leaf.b9,x.Leaf.b10,x.Leaf.b11,x.Leaf.b12,x.Leaf.b13,x.Leaf.b14,x.Leaf.b15)
 |8=>fun (x:Pred)=>(x.Op,x.Name,x.N,x.M,x.S,x.gu)
 |9=>fun (x:Law)=>(x.Name,x.Where.Op,x.Where.Name,x.Where.N,x.Where.M,x.Where.S,x.Where.gu,x.dn)
 |10=>fun (x:fF)=>(x.B.aF.gq,x.B.aF.iG,x.B.aF.Defs,x.B.aH,x.B.Day,x.B.dn,x.B.Rows,x.L,x.E)
 |11=>fun (x:Snapshot)=>(x.Day,x.aH)
 |12=>fun (x:fA)=>(x.L,x.E)
 |13=>fun (x:Event)=>(x.Kind,x.aH,x.Day,x.ID,x.dY,x.Until,x.From,x.Vec,x.aI,x.bD.b0,x.bD.b1,x.bD.b2,x.bD.b3,x.bD.b4,x.bD.b5,x.bD.b6,x.bD.b7,x.bD.b8,x.bD.b9,x.bD.b10,x.bD.b11,x.bD.b12,x.bD.b13,x.bD.b14,x.bD.b15)
 |14=>fun (x:Query)=>(x.Vec,x.K,x.Within,x.Where.Op,x.Where.Name,x.Where.N,x.Where.M,x.Where.S,x.Where.gu,x.At.Day,x.At.aH,x.Budget)
 |15=>fun (x:iH)=>(x.ID,x.bU,x.Key)
 |16=>fun (x:dH)=>(x.B.aF.gq,x.B.aF.iG,x.B.aF.Defs,x.B.aH,x.B.Day,x.B.dn,x.B.Rows,x.N,x.E)
 |17=>fun (x:gF)=>(x.L,x.E)
 |18=>fun (x:aU)=>(x.B.aF.gq,x.B.aF.iG,x.B.aF.Defs,x.B.aH,x.B.Day,x.B.dn,x.B.Rows,x.E)
 |19=>fun (x:iI)=>(x.l,x.short)
 |20=>fun (x:iJ)=>(x.A.Name,x.A.Kind,x.A.N,x.A.S,x.Is)
 |21=>fun (x:bQ)=>(x.from_,x.to)
 |_+22=>fun _=>()
def adB:(n:Nat)→rT n→V
 |0=>fun (x:Def)=>Def.v x
 |1=>fun (x:aF)=>aF.v x
 |2=>fun (x:Attr)=>Attr.v x
 |3=>fun (x:Entry)=>Entry.v x
 |4=>fun (x:Row)=>Row.v x
 |5=>fun (x:Book)=>Book.v x
 |6=>fun (x:au)=>au.v x
 |7=>fun (x:Gone)=>Gone.v x
 |8=>fun (x:Pred)=>Pred.v x
 |9=>fun (x:Law)=>Law.v x
 |10=>fun (x:fF)=>fF.v x
 |11=>fun (x:Snapshot)=>Snapshot.v x
 |12=>fun (x:fA)=>fA.v x
 |13=>fun (x:Event)=>Event.v x
 |14=>fun (x:Query)=>Query.v x
 |15=>fun (x:iH)=>iH.v x
 |16=>fun (x:dH)=>dH.v x
 |17=>fun (x:gF)=>gF.v x
 |18=>fun (x:aU)=>aU.v x
 |19=>fun (x:iI)=>iI.v x
 |20=>fun (x:iJ)=>iJ.v x
 |21=>fun (x:bQ)=>bQ.v x
 |_+22=>fun _=>.agg []
def rty:List (Nat×Ty):=[(2,.int .i64),(3,.int .i64),(4,.bool),(5,.int .u8),(6,.int .u8),(9,.str),(10,.str),(11,.str),(12,.int .u64),(21,.int .i32),(22,.slice (.st 0)),(24,.st 1),(25,.slice (.st 9)),(26,.slice (.st 13)),(27,.slice (.int .i64)),(28,.slice (.st 4)),(30,.st 5),(35,.int .i64),(39,.slice (.st 7)),(44,.st 6),(46,.st 7),(47,.slice (.st 8)),(49,.st 8),(51,.st 9),(55,.st 10),(61,.st 11),(63,.slice (.st 2)),(65,.st 3),(67,.st 4),(70,.slice (.st 6)),(74,.st 12),(80,.st 13),(83,.slice (.st 3)),(88,.st 14),(92,.slice (.st 15)),(96,.st 15),(102,.st 16),(119,.slice .str),(121,.st 0),(124,.slice (.int .u8)),(129,.st 17),(132,.slice (.st 2)),(153,.st 18),(181,.st 19),(187,.st 2),(216,.st 20),(218,.int .u32),(221,.int .u64),(231,.int .u64),(254,.slice (.st 21)),(256,.st 21),(261,.slice (.slice (.int .i64))),(263,.slice (.slice (.int .u8))),(280,.slice (.int .u32)),(283,.int .i64),(292,.int .u64),(307,.int .u8),(308,.int .u8),(311,.int .i32),(312,.int .i32)]
def uK:Vec 64:=⟨[1116352408,1899447441,3049323471,3921009573,961987163,1508970993,2453635748,2870763221,3624381080,310598401,607225278,1426881987,1925078388,2162078206,2614888103,3248222580,3835390401,4022224774,264347078,604807628,770255983,1249150122,1555081692,1996064986,2554220882,2821834349,2952996808,3210313671,3336571891,3584528711,113926993,338241895,666307205,773529912,1294757372,1396182291,1695183700,1986661051,2177026350,2456956037,2730485921,2820302411,3259730800,3345764771,3516065817,3600352804,4094571909,275423344,430227734,506948616,659060556,883997877,958139571,1322822218,1537002063,1747873779,1955562222,2024104815,2227730452,2361852424,2428436474,2756734187,3204031479,3329325298],rfl⟩
def glS (g:Nat):Option ((k:IntKind)×(n:Nat)×Vec n):=bif Nat.ble g 1 then some ⟨.u32,64,uK⟩ else none
def R:jB:={T:=rT,d:=rd,lf:=Ws,to:=rto,of:=rof,enc:=adB,ty:=fun t=>look rty t,gl:=glS}
theorem sV:oh R where
 G7:=fun n p=>by
  match n,p with
  |0,p=>exact rfl
  |1,p=>exact rfl
  |2,p=>exact rfl
  |3,p=>exact rfl
  |4,p=>exact rfl
  |5,p=>exact rfl
  |6,p=>exact rfl
  |7,p=>exact rfl
  |8,p=>exact rfl
  |9,p=>exact rfl
  |10,p=>exact rfl
  |11,p=>exact rfl
  |12,p=>exact rfl
  |13,p=>exact rfl
  |14,p=>exact rfl
  |15,p=>exact rfl
  |16,p=>exact rfl
  |17,p=>exact rfl
  |18,p=>exact rfl
  |19,p=>exact rfl
  |20,p=>exact rfl
  |21,p=>exact rfl
  |_+22,p=>exact rfl
 enc:=fun n x=>by
  match n,x with
  |0,x=>exact rfl
  |1,x=>exact rfl
  |2,x=>exact rfl
  |3,x=>exact rfl
  |4,x=>exact rfl
  |5,x=>exact rfl
  |6,x=>exact rfl
  |7,x=>exact rfl
  |8,x=>exact(by show Pred.v x=_;unfold Pred.v Pred.c;simp only[Pred.xD];rfl)
  |9,x=>exact(by show Law.v x=_;unfold Law.v Law.c;simp only[Pred.xD];rfl)
  |10,x=>exact rfl
  |11,x=>exact rfl
  |12,x=>exact rfl
  |13,x=>exact rfl
  |14,x=>exact(by show Query.v x=_;unfold Query.v Query.c;simp only[Pred.xD];rfl)
  |15,x=>exact rfl
  |16,x=>exact rfl
  |17,x=>exact rfl
  |18,x=>exact rfl
  |19,x=>exact rfl
  |20,x=>exact rfl
  |21,x=>exact rfl
  |_+22,x=>exact rfl
 leaf:=fun n=>by
  match n with
  |0=>exact rfl
  |1=>exact rfl
  |2=>exact rfl
  |3=>exact rfl
  |4=>exact rfl
  |5=>exact rfl
  |6=>exact rfl
  |7=>exact rfl
  |8=>exact rfl
  |9=>exact rfl
  |10=>exact rfl
  |11=>exact rfl
  |12=>exact rfl
  |13=>exact rfl
  |14=>exact rfl
  |15=>exact rfl
  |16=>exact rfl
  |17=>exact rfl
  |18=>exact rfl
  |19=>exact rfl
  |20=>exact rfl
  |21=>exact rfl
  |_+22=>exact rfl
 pc:=fun n x=>by
  match n,x with
  |0,x=>exact Def.pc x
  |1,x=>exact aF.pc x
  |2,x=>exact Attr.pc x
  |3,x=>exact Entry.pc x
  |4,x=>exact Row.pc x
  |5,x=>exact Book.pc x
  |6,x=>exact au.pc x
  |7,x=>exact Gone.pc x
  |8,x=>exact Pred.pc x
  |9,x=>exact Law.pc x
  |10,x=>exact fF.pc x
  |11,x=>exact Snapshot.pc x
  |12,x=>exact fA.pc x
  |13,x=>exact Event.pc x
  |14,x=>exact Query.pc x
  |15,x=>exact iH.pc x
  |16,x=>exact dH.pc x
  |17,x=>exact gF.pc x
  |18,x=>exact aU.pc x
  |19,x=>exact iI.pc x
  |20,x=>exact iJ.pc x
  |21,x=>exact bQ.pc x
  |_+22,x=>exact(by simp[R,adB,aA,bf])
end Sh
end
section
namespace Aq
open Go
def gX (k:IntKind) (x y:Int):Int:=k.wrap (BitVec.ofInt k.bits x&&& BitVec.ofInt k.bits y).toNat
def jE (k:IntKind) (x y:Int):Int:=k.wrap (BitVec.ofInt k.bits x|||BitVec.ofInt k.bits y).toNat
def dz (k:IntKind) (x y:Int):Int:=k.wrap (BitVec.ofInt k.bits x^^^BitVec.ofInt k.bits y).toNat
def j5 (k:IntKind) (x y:Int):Int:=k.wrap (x*2^min y.toNat k.bits)
def eP (k:IntKind) (x y:Int):Int:=x.fdiv (2^min y.toNat k.bits)
section
variable {R:jB} {E:Env}
def aV (f:Nat) (r:FR R) (F:Nat→List (FR R)):Nat→List (FR R):=fun g=>bif Nat.beq g f then r::F g else F g
theorem aX {f:Nat} {r:FR R} {F:Nat→List (FR R)} (hF:aO E F) (h:∀p x,r.F p=some x→Pure E f (bG R r.args p) (ku (bG R r.res x))) (ho:r.own=false:=by rfl):aO E (aV f r F):=by
 intro g q hq p x hx
 unfold aV at hq
 cases hb:Nat.beq g f
 ·rw[hb] at hq;exact hF g q hq p x hx
 ·rw[hb,cond_true] at hq
  rcases List.mem_cons.1 hq with rfl|hq
  ·rw[eF hb];exact⟨fun _=>h p x hx,fun e=>by rw[ho] at e;cases e⟩
  ·exact hF g q hq p x hx
def noF:Nat→List (FR R):=fun _=>[]
def noI:Nat→List (FI R):=fun _=>[]
theorem aoE:yu E (noI (R:=R)):=fun _ _ h=>by cases h
def w9 (g:Nat) (i:FI R) (I:Nat→List (FI R)):Nat→List (FI R):=fun f=>bif Nat.beq f g then i::I f else I f
theorem aoF {g:Nat} {i:FI R} {I:Nat→List (FI R)} (hI:yu E I) (h:E.imp g=true∧∀pa pb xs,i.F pa pb=some xs→HY E g (bG R i.a pa) (bG R i.b pb) (xs.map (bG R i.el))):yu E (w9 g i I):=by
 intro f q hq
 unfold w9 at hq
 cases hb:Nat.beq f g
 ·rw[hb] at hq;exact hI f q hq
 ·rw[hb,cond_true] at hq
  rcases List.mem_cons.1 hq with rfl|hq
  ·rw[eF hb];exact h
  ·exact hI f q hq
theorem aoG:aO E (noF (R:=R)):=fun _ _ h=>by cases h
theorem adE {f:Nat} {k:Sk} {args:List Sk} {τ:Ty} {G:ak R.T (.dK::k::args)→Option (List (Den R.T τ))} {d:List (Den R.T τ)} {F:Nat→List (FR R)} (hF:aO E F)
 (h:∀u p x,G (u,p)=some x→nC E f (.aj .nil []::bG R (k::args) p) (dB R τ) (x.map (aD R τ))) (hn:E.vG f=true:=by rfl):aO E (aV f ⟨.dK::k::args,[.d (.slice τ)],G,d,true⟩ F):=by
 intro g q hq p x hx
 unfold aV at hq
 cases hb:Nat.beq g f
 ·rw[hb] at hq;exact hF g q hq p x hx
 ·rw[hb,cond_true] at hq
  rcases List.mem_cons.1 hq with rfl|hq
  ·rw[eF hb]
   refine⟨fun hc=>(by cases hc),fun _ τ' e l hl=> ?_⟩
   cases e
   have hl':x=l:=hl
   subst hl'
   exact⟨fun hc=>(by cases hc),fun _=>⟨hn,h p.1 p.2 x hx⟩⟩
  ·exact hF g q hq p x hx
theorem Wt {f:Nat} {args:List Sk} {τ:Ty} {G:ak R.T args→Option (List (Den R.T τ))} {d:List (Den R.T τ)} {F:Nat→List (FR R)} (hF:aO E F)
 (h:∀p x,G p=some x→Pure E f (bG R args p) (.aj .sh (x.map (aD R τ)))∧nC E f (bG R args p) (dB R τ) (x.map (aD R τ))) (hc:jg args=true:=by rfl) (hn:E.vG f=false:=by rfl):aO E (aV f ⟨args,[.d (.slice τ)],G,d,true⟩ F):=by
 intro g q hq p x hx
 unfold aV at hq
 cases hb:Nat.beq g f
 ·rw[hb] at hq;exact hF g q hq p x hx
 ·rw[hb,cond_true] at hq
  rcases List.mem_cons.1 hq with rfl|hq
  ·rw[eF hb]
   obtain⟨h1,h2⟩:=h p x hx
   refine⟨fun _=>h1,fun _ τ' e l hl=> ?_⟩
   cases e
   have hl':x=l:=hl
   subst hl'
   exact⟨fun _=>⟨hn,h2⟩,fun e=>(by rw[hc] at e;cases e)⟩
  ·exact hF g q hq p x hx
end
def adF:(k:jA)→CB k
 |.i _=>(0:Int)
 |.a _ n=>Vec.rep n 0
def adG:(l:List jA)→zM l
 | []=>()
 | [k]=>adF k
 |k::h::l=>(adF k,adG (h::l))
section
variable (R:jB)
mutual
def adH:(k:Sk)→qg R.T k
 |.d t=>CG R t
 |.l _ t=>([]:List (Den R.T t))
 |.agg l=>aT l
 |.ref _ _=>()
 |.aM l _=>aT l
 |.cK _=>()
 |.dD k e=>([]:List (Den R.T k×Den R.T e))
 |.fn _ a b=>(aT a,aT b)
 |.dK=>()
 |.vw _ _=>()
 |.sg l=>adG l
 |.undef=>()
def aT:(l:List Sk)→ak R.T l
 | []=>()
 | [k]=>adH k
 |k::h::l=>(adH k,aT (h::l))
end
end
end Aq
end
section
open Go Go.Proofs Aq
namespace Sh
def pz:List V:=[.int .u32 1116352408,.int .u32 1899447441,.int .u32 3049323471,.int .u32 3921009573,.int .u32 961987163,.int .u32 1508970993,.int .u32 2453635748,.int .u32 2870763221,.int .u32 3624381080,.int .u32 310598401,.int .u32 607225278,.int .u32 1426881987,.int .u32 1925078388,.int .u32 2162078206,.int .u32 2614888103,.int .u32 3248222580,.int .u32 3835390401,.int .u32 4022224774,.int .u32 264347078,.int .u32 604807628,.int .u32 770255983,.int .u32 1249150122,.int .u32 1555081692,.int .u32 1996064986,.int .u32 2554220882,.int .u32 2821834349,.int .u32 2952996808,.int .u32 3210313671,.int .u32 3336571891,.int .u32 3584528711,.int .u32 113926993,.int .u32 338241895,.int .u32 666307205,.int .u32 773529912,.int .u32 1294757372,.int .u32 1396182291,.int .u32 1695183700,.int .u32 1986661051,.int .u32 2177026350,.int .u32 2456956037,.int .u32 2730485921,.int .u32 2820302411,.int .u32 3259730800,.int .u32 3345764771,.int .u32 3516065817,.int .u32 3600352804,.int .u32 4094571909,.int .u32 275423344,.int .u32 430227734,.int .u32 506948616,.int .u32 659060556,.int .u32 883997877,.int .u32 958139571,.int .u32 1322822218,.int .u32 1537002063,.int .u32 1747873779,.int .u32 1955562222,.int .u32 2024104815,.int .u32 2227730452,.int .u32 2361852424,.int .u32 2428436474,.int .u32 2756734187,.int .u32 3204031479,.int .u32 3329325298]
def adI (g:Nat):Option (List V):=bif Nat.beq g 1 then some pz else bif Nat.beq g 0 then some pz else none
end Sh
end
section
open Go Go.Proofs Aq
namespace Sh
set_option maxRecDepth 100000
set_option linter.unusedSimpArgs false
set_option linter.unusedVariables false
def adJ:List V→Option V
 | []=>some (.bool true)
 |_::_=>none
def aoH (g d:Nat):Bool:=bif Nat.beq g 200 then bn d [24] else bif Nat.beq g 199 then bn d [24] else bif Nat.beq g 161 then bn d [32] else bif Nat.beq g 106 then bn d [5,7] else bif Nat.beq g 105 then bn d [5,10] else false
noncomputable def E:Env:={P:=Tryz.prog,glob:=adI,imp:=fun f=>Nat.beq f 152||Nat.beq f 153||Nat.beq f 109,om:=fun f=>Nat.beq f 146||Nat.beq f 195||Nat.beq f 199||Nat.beq f 200,kX:=fun f=>bif Nat.beq f 11 then some adJ else none,own:=aoH,vG:=fun f=>Nat.beq f 199||Nat.beq f 200}
mutual
def pre:Pred→List Pred
 | ⟨op,name,n,m,s,subs⟩=>⟨op,name,n,m,s,subs⟩::mW subs
def mW:List Pred→List Pred
 | []=>[]
 |p::ps=>pre p++mW ps
end
theorem pre_eq (p:Pred):pre p=p::mW p.gu:=by cases p;simp[pre]
def yl (l:List Pred):List (List V):=l.map fun q=>[Pred.v q]
abbrev yv (l:Nat):V:=.fn (.yield l) [] []
def Wu (d dd l:Nat) (σ:ah) (J:List (List V)→ah→Prop) (D:ah→Prop) (L:List (List V)) (v:V) (σ':ah):Prop:=
 σ.next≤σ'.next∧(∀a o,d<a→a<dd→σ'.obj (a,o)=σ.obj (a,o))∧(∀s,s<σ.next→σ'.loops s=σ.loops s∨s=l)∧((v= .bool true∧J L σ')∨(v= .bool false∧D σ'))
theorem Wu.trans {d dd l:Nat} {σ σ1:ah} {J:List (List V)→ah→Prop} {D:ah→Prop} {L:List (List V)} {v:V} {σ':ah} (hn:σ.next≤σ1.next) (ho:∀a o,d<a→a<dd→σ1.obj (a,o)=σ.obj (a,o)) (hl:∀s,s<σ.next→σ1.loops s=σ.loops s∨s=l)
 (h:Wu d dd l σ1 J D L v σ'):Wu d dd l σ J D L v σ':=by
 obtain⟨h1,h2,h3,h4⟩:=h
 refine⟨Nat.le_trans hn h1,fun a o ha hb=>(h2 a o ha hb).trans (ho a o ha hb),fun s hs=> ?_,h4⟩
 rcases h3 s (Nat.lt_of_lt_of_le hs hn) with e|e
 ·rcases hl s hs with e'|e'
  ·exact .inl (e.trans e')
  ·exact .inr e'
 ·exact .inr e
theorem NG {a o s b p:Nat} {σ:ah} {x:gQ} (h:b≠a):(σ.setObj (a,o) s x).obj (b,p)=σ.obj (b,p):=by
 show upd σ.obj (a,o) _ (b,p)=_
 unfold upd
 rw[if_neg]
 intro e
 exact h (congrArg Prod.fst e)
theorem aoI {σ σ':ah} {loc:Aq.Loc} {s:Nat} (h:σ'.obj loc=σ.obj loc):σ'.bY loc s=σ.bY loc s:=by
 unfold ah.bY;rw[h]
end Sh
end
section
open Go Go.Proofs Aq
namespace Sh
set_option maxRecDepth 100000
set_option linter.unusedSimpArgs false
set_option linter.unusedVariables false
def Pg (d dd l:Nat) (σ σ':ah):Prop:=σ.next≤σ'.next∧(∀a o,d<a→a<dd→σ'.obj (a,o)=σ.obj (a,o))∧(∀s,s<σ.next→σ'.loops s=σ.loops s∨s=l)
theorem Pg.trans {d dd l:Nat} {σ σ1 σ2:ah} (h:Pg d dd l σ σ1) (g:Pg d dd l σ1 σ2):Pg d dd l σ σ2:=by
 refine⟨Nat.le_trans h.1 g.1,fun a o ha hb=>(g.2.1 a o ha hb).trans (h.2.1 a o ha hb),fun s hs=> ?_⟩
 rcases g.2.2 s (Nat.lt_of_lt_of_le hs h.1) with e|e
 ·rcases h.2.2 s hs with e'|e'
  ·exact .inl (e.trans e')
  ·exact .inr e'
 ·exact .inr e
theorem Pg.refl {d dd l:Nat} {σ:ah}:Pg d dd l σ σ:=⟨Nat.le_refl _,fun _ _ _ _=>rfl,fun _ _=>.inl rfl⟩
theorem Pg.bump {d dd l k:Nat} {σ:ah}:Pg d dd l σ (σ.bump k):=⟨Nat.le_add_right _ _,fun _ _ _ _=>rfl,fun _ _=>.inl rfl⟩
theorem Pg.set {d dd l o s:Nat} {σ:ah} {x:gQ}:Pg d dd l σ (σ.setObj (dd,o) s x):=⟨Nat.le_refl _,fun a o' _ hb=>NG (by omega),fun _ _=>.inl rfl⟩
theorem adK:∀l:List Pred,l.length≤(mW l).length
 | []=>by simp[mW]
 |p::l=>by have:=adK l;rw[mW,pre_eq];simp;omega
theorem adL {q:Pred}:∀{l:List Pred},q∈l→(pre q).length≤(mW l).length
 |p::l,h=>by
  rw[mW,List.length_append]
  rcases List.mem_cons.1 h with rfl|h
  ·omega
  ·have:=adL h;omega
theorem aoJ {d l:Nat} {J:List (List V)→ah→Prop} {D:ah→Prop} (hJ:∀xs σ σ',l<σ.next→J xs σ→Shift d σ σ'→J xs σ') (hD:∀σ σ',l<σ.next→D σ→Shift d σ σ'→D σ')
 (hr:∀x xs σ,l<σ.next→J (x::xs) σ→∃c σ',wu E l x σ c σ'∧σ.next≤σ'.next∧(∀a o,d<a→σ'.obj (a,o)=σ.obj (a,o))∧(∀s,s<σ.next→σ'.loops s=σ.loops s∨s=l)∧(c=true→J xs σ')∧(c=false→D σ')):
 ∀(g:Nat) (p:Pred),sizeOf p<g→(pre p).length<2^62→∀(dd:Nat) (σ:ah) (L:List (List V)),d<dd→l<σ.next→J (yl (pre p)++L) σ→jK E 153 [Pred.v p,yv l] dd σ (fun v σ'=>Pg d dd l σ σ'∧((v= .bool true∧J L σ')∨(v= .bool false∧D σ'))):=by
 intro g
 induction g with
 |zero=>intro p hp;omega
 |succ g ih=>
 intro p hp hsz dd σ0 L hd hl hj
 have aC:∀{σ:ah} {x:gQ} {k o s:Nat},Pg d dd l σ ((σ.bump k).setObj (dd,o) s x):=Pg.trans .bump .set
 have part:∀(fr:Fr) (σ:ah) (s:Nat) (q:Pred) (xs:List (List V)) (Q:Ex→Fr→ah→Prop),sizeOf q<g→(pre q).length<2^62→fr.d=dd→fr.tm 1=yv l→fr.tm 6= .ref (dd,6) s 0→σ.bY (dd,6) s=some q.c→l<σ.next→Pg d dd l σ0 σ→J (yl (pre q)++xs) σ→
  (∀fr' σ',(∀i,i<18→6<i→fr'.tm i=fr.tm i)→fr'.d=dd→fr'.tm 1=yv l→l<σ'.next→Pg d dd l σ0 σ'→J xs σ'→Q .normal fr' σ')→(∀fr' σ',fr'.tm 4= .bool false→D σ'→Pg d dd l σ0 σ'→Q .ret fr' σ')→
  CW E ((aN Tryz.f153.body [1,1,0,1,0,0,1,1,0,0,1]).getD .skip) fr σ Q:=by
  intro fr σ s q xs Q hq Wv h1 h2 h3 h4 hl hp hj Ww Wx
  have hP:E.P=Tryz.prog:=rfl
  refine CW.seq (CW.region ?_)
  refine OW.o1 (by rfl) (fun S=>by simp only[go_sem,Nat.reduceBEq,Nat.reduceAdd, *];with_reducible exact Is.rfl) ?_
  refine OW.o1 (by rfl) (fun S=>by simp only[go_sem,Nat.reduceBEq,Nat.reduceAdd, *];with_reducible exact Is.rfl) ?_
  refine OW.Cx (g:=153) (a:=[]) (b:=[]) (by rfl) rfl rfl rfl rfl ?_
  rw[qU,qU,h1]
  change jK E 153 [Pred.v q,yv l] (dd+1) _ _
  obtain⟨n,v,σ1,hn,hpg,hv⟩:=ih q hq Wv (dd+1) (σ.bump 4) xs (by omega) (Nat.lt_of_lt_of_le hl (Nat.le_add_right _ _)) (hJ _ _ _ hl hj ⟨Nat.le_add_right _ _,fun _ _=>rfl,fun _ _=>rfl,fun _ _ _=>rfl⟩)
  have adM:Pg d dd l σ0 σ1:=hp.trans (Pg.trans .bump ⟨hpg.1,fun a o ha hb=>hpg.2.1 a o ha (by omega),hpg.2.2⟩)
  have hl':l<σ1.next:=Nat.lt_of_lt_of_le hl (Nat.le_trans (Nat.le_add_right _ 4) hpg.1)
  refine⟨n,v,σ1,hn, ?_⟩
  rcases hv with ⟨rfl,hj'⟩| ⟨rfl,hd'⟩
  ·refine OW.o1 (by rfl) (fun S=>by simp only[go_sem,Nat.reduceBEq,Nat.reduceAdd, *];with_reducible exact Is.rfl) ?_
   refine OW.nil (dh.n ?_)
   refine CW.uq (by simp only[go_sem,Nat.reduceBEq,Nat.reduceAdd, *];exact Is.rfl) ?_
   refine CW.skip (Ww _ _ (fun i h1 h2=> ?_) ?_ ?_ hl' adM hj')
   ·simp only[xC]
    rw[vN _ _ (by simp;omega),vN _ _ (by simp;omega),vN _ _ (by simp;omega),vN _ _ (by simp;omega)]
   ·simp only[xC,qU,h1]
   ·simp only[go_sem,Nat.reduceBEq,h2]
  ·refine OW.o1 (by rfl) (fun S=>by simp only[go_sem,Nat.reduceBEq,Nat.reduceAdd, *];with_reducible exact Is.rfl) ?_
   refine OW.nil (dh.n ?_)
   refine CW.vO (by simp only[go_sem,Nat.reduceBEq,Nat.reduceAdd, *];exact Is.rfl) ?_
   refine CW.seq (CW.region ?_)
   refine OW.o1 (by rfl) (fun S=>by simp only[go_sem,Nat.reduceBEq,Nat.reduceAdd, *];with_reducible exact Is.rfl) ?_
   refine OW.nil (dh.n (CW.ret (Wx _ _ ?_ ?_ (adM.trans .bump))))
   ·simp only[go_sem,Nat.reduceBEq]
   ·exact hD _ _ hl' hd' ⟨Nat.le_add_right _ _,fun _ _=>rfl,fun _ _=>rfl,fun _ _ _=>rfl⟩
 have loop:∀(k i:Nat) (fr:Fr) (σ:ah),i+k=p.gu.length→fr.d=dd→fr.tm 1=yv l→fr.tm 12=lv Pred.v p.gu→fr.tm 13= .int .i64 (p.gu.length:Nat)→fr.tm 14= .int .i64 (i:Nat)→p.gu.length<2^62→l<σ.next→Pg d dd l σ0 σ→J (yl (mW (p.gu.drop i))++L) σ→
  CW E ((aN Tryz.f153.body [1,1,0,1,0]).getD .skip) fr σ (fun e fr' σ'=>(e= .exit 0∧J L σ'∧Pg d dd l σ0 σ')∨(e= .ret∧fr'.tm 4= .bool false∧D σ'∧Pg d dd l σ0 σ')):=by
  intro k
  induction k with
  |zero=>
   intro i fr σ hi h1 h2 h3 h4 h5 hb hl hp hj
   refine CW.loop (CW.seq (CW.region ?_))
   refine OW.o1 (by rfl) (fun S=>by simp only[go_sem,Nat.reduceBEq,Nat.reduceAdd, *];with_reducible exact Is.rfl) ?_
   refine OW.nil (dh.n ?_)
   have e:decide (((i:Nat):Int)< ((p.gu.length:Nat):Int))=false:=by simp;omega
   refine CW.seq (CW.uq (by simp only[go_sem,Nat.reduceBEq,Nat.reduceAdd, *];exact Is.rfl) ?_)
   refine CW.exit (dh.x (sM.x (.inl ⟨rfl, ?_,hp.trans .bump⟩)))
   have:p.gu.drop i=[]:=List.drop_eq_nil_of_le (by omega)
   rw[this] at hj
   exact hJ _ _ _ hl (by simpa [yl,mW] using hj) ⟨Nat.le_add_right _ _,fun _ _=>rfl,fun _ _=>rfl,fun _ _ _=>rfl⟩
  |succ k ihk=>
   intro i fr σ hi h1 h2 h3 h4 h5 hb hl hp hj
   have hlt:i<p.gu.length:=by omega
   have hx:aK p.gu ((i:Nat):Int)=some p.gu[i]:=by
    unfold aK;rw[if_pos ⟨by omega,by omega⟩];simp[hlt]
   have hdrop:p.gu.drop i=p.gu[i]::p.gu.drop (i+1):=List.drop_eq_getElem_cons hlt
   have hmem:p.gu[i]∈p.gu:=List.getElem_mem hlt
   generalize p.gu[i]=q at hx hdrop hmem
   refine CW.loop (CW.seq (CW.region ?_))
   refine OW.o1 (by rfl) (fun S=>by simp only[go_sem,Nat.reduceBEq,Nat.reduceAdd, *];with_reducible exact Is.rfl) ?_
   refine OW.nil (dh.n ?_)
   have e:decide (((i:Nat):Int)< ((p.gu.length:Nat):Int))=true:=by simp;omega
   refine CW.seq (CW.vO (by simp only[go_sem,Nat.reduceBEq,Nat.reduceAdd, *];exact Is.rfl) ?_)
   refine CW.skip (dh.n ?_)
   refine CW.seq (CW.block (CW.seq (CW.region ?_)))
   have hP:E.P=Tryz.prog:=rfl
   have aw3:mZ Tryz.prog 47 (lv Pred.v p.gu) (.int .i64 ((i:Nat):Int))=some (.aM q.c 0):=by
    rw[abj,if_pos (by rfl)]
    have e1:jy Tryz.prog 47=some 49:=by kernel_rfl
    have e2:bX Tryz.prog 49=some 6:=by kernel_rfl
    rw[e1];simp only[Option.bind_some,e2,hx]
    rfl
   refine OW.o1 (by rfl) (fun S=>by simp only[go_sem,Nat.reduceBEq,Nat.reduceAdd, *];with_reducible exact Is.rfl) ?_
   refine OW.o1 (by rfl) (fun S=>by simp only[go_sem,Nat.reduceBEq,Nat.reduceAdd, *];with_reducible exact Is.rfl) ?_
   have hz:iC Tryz.prog 49=some (.agg [.int .i64 0,.str [],.int .i64 0,.int .i64 0,.str [],.aj .nil []]):=by kernel_rfl
   refine OW.o1 (by rfl) (fun S=>by simp only[go_sem,Nat.reduceBEq,Nat.reduceAdd, *];with_reducible exact Is.rfl) ?_
   have aw4:bX Tryz.prog 49=some 6:=by kernel_rfl
   have hsp:fK [.int .i64 0,.str [],.int .i64 0,.int .i64 0,.str [],.aj .nil []] 0 q.c=q.c:=rfl
   refine OW.o0 (by rfl) (fun S=>by
    rw[abn]
    simp only[go_sem,Nat.reduceBEq,Nat.reduceAdd, *]
    rw[if_pos (by decide)]
    exact Is.rfl) ?_
   refine OW.nil (NQ.i (dh.n ?_))
   rw[hdrop] at hj
   have hj1:J (yl (pre q)++(yl (mW (p.gu.drop (i+1)))++L)) σ:=by
    have:yl (mW (q::p.gu.drop (i+1)))=yl (pre q)++yl (mW (p.gu.drop (i+1))):=by simp[yl,mW]
    rw[this,List.append_assoc] at hj;exact hj
   refine part _ _ ?s q _ _ ?hq ?Wv ?h1 ?h2 ?h3 ?h4 ?hl ?hp (hJ _ _ _ hl hj1 ?hsh) ?Ww ?Wx
   case h3=>simp only[go_sem,Nat.reduceBEq,Nat.reduceAdd, *];rfl
   case hq=>
    have h7:=List.sizeOf_lt_of_mem hmem
    have h8:sizeOf p.gu<sizeOf p:=by cases p;simp;omega
    omega
   case Wv=>have h:=adL hmem;rw[pre_eq] at hsz;simp at hsz;omega
   case h1=>simp only[qU,h1]
   case h2=>simp only[go_sem,Nat.reduceBEq,Nat.reduceAdd, *]
   case h4=>exact nU _ _ _ _
   case hl=>exact Nat.lt_of_lt_of_le hl (Nat.le_trans (Nat.le_add_right _ _) (Nat.le_add_right _ _))
   case hp=>exact hp.trans (Pg.trans .bump (Pg.trans .bump (Pg.trans .set .set)))
   case hsh=>exact⟨Nat.le_trans (Nat.le_add_right _ _) (Nat.le_add_right _ _),fun _ _=>rfl,fun _ _=>rfl,fun a o ha=>(NG (by omega)).trans (NG (by omega))⟩
   case Ww=>
    intro fr' σ' k1 k2 k3 k4 k5 k6
    refine oN.n (dh.n (CW.region ?_))
    have t12:fr'.tm 12=lv Pred.v p.gu:=by rw[k1 12 (by omega) (by omega)];simp only[go_sem,Nat.reduceBEq,Nat.reduceAdd, *]
    have t13:fr'.tm 13= .int .i64 (p.gu.length:Nat):=by rw[k1 13 (by omega) (by omega)];simp only[go_sem,Nat.reduceBEq,Nat.reduceAdd, *]
    have t14:fr'.tm 14= .int .i64 (i:Nat):=by rw[k1 14 (by omega) (by omega)];simp only[go_sem,Nat.reduceBEq,Nat.reduceAdd, *]
    have hw:IntKind.wrap .i64 ((i:Int)+(1:Int))=((i+1:Nat):Int):=by rw[IntKind.wrap_i64];omega
    refine OW.o1 (by rfl) (fun S=>by simp only[go_sem,Nat.reduceBEq,Nat.reduceAdd, *];with_reducible exact Is.rfl) ?_
    refine OW.o1 (by rfl) (fun S=>by simp only[go_sem,Nat.reduceBEq,Nat.reduceAdd, *];with_reducible exact Is.rfl) ?_
    refine OW.nil (NQ.i (sM.n (ihk (i+1) _ _ (by omega) ?_ ?_ ?_ ?_ ?_ hb ?_ (k5.trans .bump) ?_)))
    ·simp only[qU,k2]
    ·simp only[go_sem,Nat.reduceBEq,Nat.reduceAdd, *]
    ·simp only[go_sem,Nat.reduceBEq,Nat.reduceAdd, *]
    ·simp only[go_sem,Nat.reduceBEq,Nat.reduceAdd, *]
    ·simp only[go_sem,Nat.reduceBEq,Nat.reduceAdd, *]
    ·exact Nat.lt_of_lt_of_le k4 (Nat.le_add_right _ _)
    ·exact hJ _ _ _ k4 k6 ⟨Nat.le_add_right _ _,fun _ _=>rfl,fun _ _=>rfl,fun _ _ _=>rfl⟩
   case Wx=>
    intro fr' σ' k1 k2 k3
    exact oN.r (dh.r (sM.r (.inr ⟨rfl,k1,k2,k3⟩)))
 refine jK.of (fn:=Tryz.f153) (c:=Tryz.f153.body.getD .skip) Tryz.func153 rfl (by kernel_rfl) ?_
 generalize hfr:({d:=dd,om:=E.om 153,tm:=fun i=>[Pred.v p,yv l].getD i ay}:Fr)=fr
 have h0:fr.tm 0=Pred.v p:=by rw[←hfr];rfl
 have h1:fr.tm 1=yv l:=by rw[←hfr];rfl
 have hdd:fr.d=dd:=by rw[←hfr]
 have hP:E.P=Tryz.prog:=rfl
 clear hfr
 refine CW.seq (CW.region ?_)
 refine OW.o1 (by rfl) (fun S=>by simp only[go_sem,Nat.reduceBEq,Nat.reduceAdd, *];with_reducible exact Is.rfl) ?_
 refine OW.o1 (by rfl) (fun S=>by simp only[go_sem,Nat.reduceBEq,Nat.reduceAdd, *];with_reducible exact Is.rfl) ?_
 refine OW.nil (dh.n ?_)
 refine CW.seq (CW.seq (CW.region ?_))
 refine OW.o1 (by rfl) (fun S=>by simp only[go_sem,Nat.reduceBEq,Nat.reduceAdd, *];with_reducible exact Is.rfl) ?_
 refine OW.o1 (by rfl) (fun S=>by simp only[go_sem,Nat.reduceBEq,Nat.reduceAdd, *];with_reducible exact Is.rfl) ?_
 rw[pre_eq] at hj
 have hj':J ([Pred.v p]::(yl (mW p.gu)++L)) (((σ0.bump 2).setObj (dd,2) σ0.next (.cells p.c)).bump 4):=hJ _ _ _ hl (by simpa [yl] using hj) ⟨Nat.le_trans (Nat.le_add_right _ 2) (Nat.le_add_right _ 4),fun _ _=>rfl,fun _ _=>rfl,fun a o ha=>NG (by omega)⟩
 have hl1:l< (((σ0.bump 2).setObj (dd,2) σ0.next (.cells p.c)).bump 4).next:=by show l<σ0.next+2+4;omega
 obtain⟨c,σ1,hrnd,hn1,ho1,hlo1,hc1,hc2⟩:=hr _ _ _ hl1 hj'
 have hcell:σ1.bY (dd,2) σ0.next=some p.c:=by
  rw[aoI (ho1 dd 2 hd)]
  exact nU _ _ _ _
 have Wy:Pg d dd l σ0 σ1:=(Pg.trans aC .bump).trans ⟨hn1,fun a o ha _=>ho1 a o ha,hlo1⟩
 have hl2:l<σ1.next:=Nat.lt_of_lt_of_le hl Wy.1
 refine OW.yield (l:=l) (b:=c) (by rfl) rfl rfl ?_ hrnd ?_
 ·simp only[go_sem,Nat.reduceBEq,Nat.reduceAdd, *]
 refine OW.o1 (by rfl) (fun S=>by simp only[go_sem,Nat.reduceBEq,Nat.reduceAdd, *];with_reducible exact Is.rfl) ?_
 refine OW.nil (dh.n ?_)
 cases c with
 |false=>
  refine CW.vO (by simp only[go_sem,Nat.reduceBEq,Nat.reduceAdd, *];exact Is.rfl) ?_
  refine CW.seq (CW.region ?_)
  refine OW.o1 (by rfl) (fun S=>by simp only[go_sem,Nat.reduceBEq,Nat.reduceAdd, *];with_reducible exact Is.rfl) ?_
  refine OW.nil (dh.n (CW.ret (dh.r ?_)))
  refine mM.one (by simp) (by simp only[go_sem,Nat.reduceBEq,Nat.reduceAdd,iD];with_reducible exact Is.rfl) ⟨Wy.trans .bump,.inr ⟨rfl, ?_⟩⟩
  exact hD _ _ hl2 (hc2 rfl) ⟨Nat.le_add_right _ _,fun _ _=>rfl,fun _ _=>rfl,fun _ _ _=>rfl⟩
 |true=>
  have hlen:p.gu.length<2^62∨2^62≤p.gu.length:=by omega
  refine CW.uq (by simp only[go_sem,Nat.reduceBEq,Nat.reduceAdd, *];exact Is.rfl) ?_
  refine CW.skip (dh.n ?_)
  refine CW.seq (CW.seq (CW.region ?_))
  refine OW.o1 (by rfl) (fun S=>by simp only[go_sem,Nat.reduceBEq,Nat.reduceAdd, *];with_reducible exact Is.rfl) ?_
  refine OW.o1 (by rfl) (fun S=>by simp only[go_sem,Nat.reduceBEq,Nat.reduceAdd, *];with_reducible exact Is.rfl) ?_
  refine OW.o1 (by rfl) (fun S=>by simp only[go_sem,Nat.reduceBEq,Nat.reduceAdd, *];with_reducible exact Is.rfl) ?_
  refine OW.o1 (by rfl) (fun S=>by simp only[go_sem,Nat.reduceBEq,Nat.reduceAdd, *];with_reducible exact Is.rfl) ?_
  refine OW.nil (dh.n (CW.block ?_))
  refine(loop p.gu.length 0 _ _ (by omega) ?_ ?_ ?_ ?_ ?_ ?_ ?_ (Wy.trans .bump) ?_).mono ?_
  ·simp only[qU,xC,hdd]
  ·simp only[go_sem,Nat.reduceBEq,Nat.reduceAdd, *]
  ·simp only[go_sem,Nat.reduceBEq,Nat.reduceAdd, *]
  ·simp only[go_sem,Nat.reduceBEq,Nat.reduceAdd, *]
  ·simp only[go_sem,Nat.reduceBEq,Nat.reduceAdd, *];rfl
  ·have h:=adK p.gu;rw[pre_eq] at hsz;simp at hsz;omega
  ·exact Nat.lt_of_lt_of_le hl2 (Nat.le_add_right _ _)
  ·exact hJ _ _ _ hl2 (by simpa using hc1 rfl) ⟨Nat.le_add_right _ _,fun _ _=>rfl,fun _ _=>rfl,fun _ _ _=>rfl⟩
  ·rintro e fr' σ' (⟨rfl,k1,k2⟩| ⟨rfl,k1,k2,k3⟩)
   ·refine oN.hit (dh.n (CW.seq (CW.region ?_)))
    refine OW.o1 (by rfl) (fun S=>by simp only[go_sem,Nat.reduceBEq,Nat.reduceAdd, *];with_reducible exact Is.rfl) ?_
    refine OW.nil (dh.n (CW.ret ?_))
    refine mM.one (by simp) (by simp only[go_sem,Nat.reduceBEq,Nat.reduceAdd,iD];with_reducible exact Is.rfl) ⟨k2.trans .bump,.inl ⟨rfl, ?_⟩⟩
    exact hJ _ _ _ (Nat.lt_of_lt_of_le hl k2.1) k1 ⟨Nat.le_add_right _ _,fun _ _=>rfl,fun _ _=>rfl,fun _ _ _=>rfl⟩
   ·refine oN.r (dh.r (mM.one (by simp) (by simp only[iD];rw[k1];exact Is.rfl) ⟨k3,.inr ⟨rfl,k2⟩⟩))
theorem aoK (p:Pred) (hsz:(pre p).length<2^62):HY E 152 [] [.aM p.c 0] (yl (pre p)):=by
 intro d l σ J D hJ hD hr hl hj
 refine jK.of (fn:=Tryz.f152) (c:=Tryz.f152.body.getD .skip) Tryz.func152 rfl (by kernel_rfl) ?_
 generalize hfr:({d:=d+1,om:=E.om 152,tm:=fun i=>([]++[.fn (.yield l) [] []]++[.aM p.c 0]:List V).getD i ay}:Fr)=fr
 have h0:fr.tm 0=yv l:=by rw[←hfr];rfl
 have h1:fr.tm 1= .aM p.c 0:=by rw[←hfr];rfl
 have hdd:fr.d=d+1:=by rw[←hfr]
 have hP:E.P=Tryz.prog:=rfl
 clear hfr
 refine CW.region ?_
 refine OW.o1 (by rfl) (fun S=>by simp only[go_sem,Nat.reduceBEq,Nat.reduceAdd, *];with_reducible exact Is.rfl) ?_
 refine OW.o1 (by rfl) (fun S=>by simp only[go_sem,Nat.reduceBEq,Nat.reduceAdd, *];with_reducible exact Is.rfl) ?_
 refine OW.Cx (g:=153) (a:=[]) (b:=[]) (by rfl) rfl rfl rfl rfl ?_
 rw[qU,qU,hdd]
 change jK E 153 [Pred.v p,yv l] (d+1+1) _ _
 obtain⟨n,v,σ1,hn,hpg,hv⟩:=aoJ hJ hD hr (sizeOf p+1) p (by omega) hsz (d+1+1) (σ.bump 3) [] (by omega) (Nat.lt_of_lt_of_le hl (Nat.le_add_right _ _)) (hJ _ _ _ hl (by simpa using hj) ⟨Nat.le_add_right _ _,fun _ _=>rfl,fun _ _=>rfl,fun _ _ _=>rfl⟩)
 refine⟨n,v,σ1,hn,OW.nil ?_⟩
 refine⟨[],rfl,Nat.le_trans (Nat.le_add_right _ 3) hpg.1, ?_⟩
 rcases hv with ⟨_,h⟩| ⟨_,h⟩
 ·exact .inl h
 ·exact .inr h
def adN (p:Pred):Option (List Pred):=if (pre p).length<2^62 then some (pre p) else none
abbrev Wz:List Sk:=[.d (.int .i64),.d .str,.d (.int .i64),.d (.int .i64),.d .str,.d (.slice (.st 8))]
abbrev adO:List Sk:=[.d (.st 8)]
noncomputable def aG:Nat→List (FI R):=w9 152 ⟨[],[.aM Wz 0],adO,fun _ q=>adN (⟨q.1,q.2.1,q.2.2.1,q.2.2.2.1,q.2.2.2.2.1,q.2.2.2.2.2⟩:Pred)⟩ noI
theorem uL:yu E aG:=by
 refine aoF aoE ⟨rfl,fun pa pb xs h=> ?_⟩
 unfold adN at h
 dsimp only at h
 split at h
 ·rename_i hsz
  cases h
  have:=aoK _ hsz
  have e:∀q:ak R.T Wz,bG R [.aM Wz 0] q=[.aM (Pred.c ⟨q.1,q.2.1,q.2.2.1,q.2.2.2.1,q.2.2.2.2.1,q.2.2.2.2.2⟩) 0]:=fun q=>by
   unfold Pred.c;rw[Pred.xD];rfl
  have e2:∀l:List Pred,List.map (bG R adO) l=yl l:=fun l=>rfl
  exact Eq.mpr (congrArg (fun b=>HY E 152 [] b (yl (pre ⟨pb.1,pb.2.1,pb.2.2.1,pb.2.2.2.1,pb.2.2.2.2.1,pb.2.2.2.2.2⟩))) (e pb)) this
 ·cases h
end Sh
end
section
open Go Go.Proofs Aq
namespace Sh
set_option maxRecDepth 100000
set_option linter.unusedSimpArgs false
set_option linter.unusedVariables false
abbrev NH:List Sk:=[.dK,.d (.int .i64)]
def DY (k:Int):Option (List Int):=if 0≤k∧k≤2^40 then some [] else none
@[irreducible] def DZ (p:ak R.T NH):Option (List Int):=DY p.2
@[irreducible] def D5 (p:ak R.T NH):Option (List Int):=DY p.2
theorem adP {n:Int} (h0: -(2^63)≤n) (h1:n<2^63):IntKind.i64.wrap n=n:=by
 rw[IntKind.wrap_i64];omega
def WA (sz:Nat) (v:V) (σ:ah):Prop:=v= .aj .nil []∨∃loc s cap ag cs,v= .vw loc s 0 0 cap sz ag∧σ.bY loc s=some cs
section
variable {E:Env} {S:je} {fr:Fr} {σ:ah} {st ty:Nat} {pos:String} {bK:Array Edge} {gd:Option (Nat×Bool)}
theorem NI {d:Option Nat} {x:Operand} {t e:TypeId} (hx:fr.ev E x= .aj .nil []) (ht:jy E.P t=some e):opC E S fr σ st ⟨d,.call ⟨.builtin .cap, #[x], #[t]⟩,ty,pos,bK,gd⟩=some (.int .i64 0,fr,σ):=by
 show Option.map _ ((some t).bind fun t=>(jy E.P t).bind fun _=>match fr.ev E x with
  |.aj .nil l|.aj .full l=>some (V.int .i64 l.length,σ)
  |_=>none)=_
 rw[Option.bind_some,ht,hx];rfl
theorem adQ {d:Option Nat} {x h:Operand} {t e:TypeId} {sz:Nat} (hx:fr.ev E x= .aj .nil []) (hh:fr.ev E h= .int .i64 0) (hu:E.P.underlying t=some (.slice e)) (hs:bX E.P e=some sz):
 opC E S fr σ st ⟨d,.slice t x none (some h) none,ty,pos,bK,gd⟩=some (.aj .nil [],fr,σ):=by
 show Option.map _ ((j6 E.P σ t (fr.ev E x) none (some (fr.ev E h)) none).map fun v=>(v,σ))=_
 rw[hx,hh]
 unfold j6
 rw[hu];dsimp only
 rw[hs];rfl
theorem adR {d:Option Nat} {x h:Operand} {t e:TypeId} {sz len cap s:Nat} {loc:Aq.Loc} {ag:Bool} (hx:fr.ev E x= .vw loc s 0 len cap sz ag) (hh:fr.ev E h= .int .i64 0) (hu:E.P.underlying t=some (.slice e)) (hs:bX E.P e=some sz):
 opC E S fr σ st ⟨d,.slice t x none (some h) none,ty,pos,bK,gd⟩=some (.vw loc s 0 0 cap sz ag,fr,σ):=by
 show Option.map _ ((j6 E.P σ t (fr.ev E x) none (some (fr.ev E h)) none).map fun v=>(v,σ))=_
 rw[hx,hh]
 unfold j6
 rw[hu];dsimp only
 rw[hs]
 have:jI len cap none (some (.int .i64 0)) none=some (0,0,cap):=by
  unfold jI bnd kI
  simp
 rw[this]
 simp
def adS (k:Int) (z:V):Nat:=0+(List.replicate k.toNat z).length
def WB (k:Int) (z:V):List V:=(([]:List V)++List.replicate k.toNat z).flatMap V.cells
theorem adT {d:Nat} {x y:Operand} {t u e:TypeId} {k:Int} {sz dP:Nat} {z:V} {ag:Bool} (ho:fr.om=true) (hx:fr.ev E x= .aj .nil []) (hy:fr.ev E y= .int .i64 k) (hu:E.P.underlying u=some (.int .i64))
 (h1:jy E.P t=some e) (h2:bX E.P e=some sz) (h3:pX E.P e=some dP) (h4:iK E.P e=some ag) (h5:iC E.P e=some z) (h6:z.cells.length=sz) (h7:0<sz) (h8:(ag||sz==1)=true) (h9:bN z.cells=true)
 (h10:dP≤8) (k0:0≤k) (k1:k≤2^40):
 opC E S fr σ st ⟨some d,.call ⟨.builtin .append, #[x,y], #[t,u]⟩,ty,pos,bK,gd⟩=some (.vw (fr.d,d) st 0 (adS k z) (adS k z) sz ag,fr,σ.setObj (fr.d,d) st (.cells (WB k z))):=by
 show Option.map _ ((some t).bind fun t=>((some u).bind E.P.underlying).bind fun u=>match u with
  |.int _=>iW E.P fr.om true σ st (some (fr.d,d)) t (fr.ev E x) (fr.ev E y)
  |.slice _|.string=>iW E.P fr.om false σ st (some (fr.d,d)) t (fr.ev E x) (fr.ev E y)
  |_=>none)=_
 rw[Option.bind_some,Option.bind_some,hu,ho,hx,hy]
 show Option.map _ (iW E.P true true σ st (some (fr.d,d)) t (.aj .nil []) (.int .i64 k))=_
 unfold iW
 rw[h1,Option.bind_some,h2,Option.bind_some,h3,Option.bind_some,h4,Option.bind_some,h5,Option.bind_some,if_pos ⟨rfl,h6,h7,h8⟩]
 rw[show jU σ ag sz z (.int .i64 k)=some (List.replicate k.toNat z) from (if_pos ⟨k0,by omega⟩:(if 0≤k∧k≤2^47 then some (List.replicate k.toNat z) else none)=_),Option.bind_some,if_pos (by rw[List.all_replicate,h9];simp)]
 dsimp only
 have hr:bC (([]:List V).length+(List.replicate k.toNat z).length) dP=true:=by
  unfold bC
  simp only[List.length_nil,Nat.zero_add,List.length_replicate,Bool.and_eq_true,decide_eq_true_eq]
  have hk:k.toNat≤2^40:=by omega
  exact⟨Nat.le_trans (Nat.mul_le_mul hk h10) (by decide),by omega⟩
 rw[if_pos ⟨hr,rfl⟩]
 rfl
end
theorem aoL (k:Int) (h0:0≤k) (h1:k≤2^40):jK E 199 [.aj .nil [],.int .i64 k] 1 ah.init (WA 1):=by
 have hP:E.P=Tryz.prog:=rfl
 have e1:jy E.P 27=some 3:=by kernel_rfl
 have e2:bX E.P 3=some 1:=by kernel_rfl
 have e6:E.P.underlying 27=some (.slice 3):=by kernel_rfl
 have e7:E.P.underlying 3=some (.int .i64):=by kernel_rfl
 have e8:iC E.P 3=some (.int .i64 0):=by kernel_rfl
 have e9:iK E.P 3=some false:=by kernel_rfl
 have e10:pX E.P 3=some 8:=by kernel_rfl
 have e3:decide (k<0)=false:=decide_eq_false (by omega)
 have e4:IntKind.i64.wrap (k-0)=k:=by rw[Int.sub_zero];exact adP (by omega) (by omega)
 have e5:IntKind.i64.wrap (0-((0:Nat):Int))=0:=by decide
 have hres:Tryz.f199.results.toList=[.tmp 4]:=rfl
 refine jK.of (fn:=Tryz.f199) (c:=Tryz.f199.body.getD .skip) Tryz.func199 rfl (by kernel_rfl) ?_
 generalize hfr:({d:=1,om:=E.om 199,tm:=fun i=>([.aj .nil [],.int .i64 k]:List V).getD i ay}:Fr)=fr
 have a0:fr.tm 0= .aj .nil []:=by rw[←hfr];rfl
 have a1:fr.tm 1= .int .i64 k:=by rw[←hfr];rfl
 have a2:fr.om=true:=by rw[←hfr];rfl
 have a3:fr.d=1:=by rw[←hfr]
 clear hfr
 refine CW.seq (CW.region ?_)
 refine OW.o1 (by rfl) (fun S=>by simp only[go_sem,Nat.reduceBEq,Nat.reduceAdd, *];with_reducible exact Is.rfl) ?_
 refine OW.nil (dh.n ?_)
 refine CW.seq (CW.seq (CW.region ?_))
 refine OW.o1 (by rfl) (fun S=>by simp only[go_sem,Nat.reduceBEq,Nat.reduceAdd, *];with_reducible exact Is.rfl) ?_
 refine OW.o1 (by rfl) (fun S=>by simp only[go_sem,Nat.reduceBEq,Nat.reduceAdd, *];with_reducible exact Is.rfl) ?_
 refine OW.nil (dh.n ?_)
 refine CW.uq (by simp only[go_sem,Nat.reduceBEq,Nat.reduceAdd, *];exact Is.rfl) ?_
 refine CW.skip (dh.n ?_)
 refine CW.seq (CW.seq (CW.region ?_))
 refine OW.o1 (by rfl) (fun S=>by simp only[go_sem,Nat.reduceBEq,Nat.reduceAdd, *];with_reducible exact Is.rfl) ?_
 refine OW.o1 (by rfl) (fun S=>by simp only[go_sem,Nat.reduceBEq,Nat.reduceAdd, *];with_reducible exact Is.rfl) ?_
 refine OW.o1 (by rfl) (fun S=>NI (by simp only[go_sem,Nat.reduceBEq, *]) e1) ?_
 refine OW.o1 (by rfl) (fun S=>by simp only[go_sem,Nat.reduceBEq,Nat.reduceAdd, *];with_reducible exact Is.rfl) ?_
 refine OW.o1 (by rfl) (fun S=>by simp only[go_sem,Nat.reduceBEq,Nat.reduceAdd,List.length_nil, *];with_reducible exact Is.rfl) ?_
 refine OW.o1 (by rfl) (fun S=>by simp only[go_sem,Nat.reduceBEq,Nat.reduceAdd, *];with_reducible exact Is.rfl) ?_
 refine OW.o1 (by rfl) (fun S=>by simp only[go_sem,Nat.reduceBEq,Nat.reduceAdd, *];with_reducible exact Is.rfl) ?_
 refine OW.o1 (by rfl) (fun S=>by simp only[go_sem,Nat.reduceBEq,Nat.reduceAdd, *];with_reducible exact Is.rfl) ?_
 refine OW.nil (dh.n ?_)
 refine CW.seq (CW.region ?_)
 refine OW.o1 (by rfl) (fun S=>by simp only[go_sem,Nat.reduceBEq,Nat.reduceAdd, *];with_reducible exact Is.rfl) ?_
 refine OW.o1 (by rfl) (fun S=>by simp only[go_sem,Nat.reduceBEq,Nat.reduceAdd, *];with_reducible exact Is.rfl) ?_
 refine OW.nil (dh.n ?_)
 cases hk:decide (k>0) with
 |false=>
  refine CW.uq (by simp only[go_sem,Nat.reduceBEq,Nat.reduceAdd, *];exact Is.rfl) ?_
  refine CW.skip (dh.n (dh.n ?_))
  refine CW.seq (CW.region ?_)
  refine OW.o1 (by rfl) (fun S=>by simp only[go_sem,Nat.reduceBEq,Nat.reduceAdd, *];with_reducible exact Is.rfl) ?_
  refine OW.o1 (by rfl) (fun S=>by simp only[go_sem,Nat.reduceBEq,Nat.reduceAdd, *];with_reducible exact Is.rfl) ?_
  refine OW.nil (dh.n ?_)
  refine CW.ret ?_
  rw[hres]
  refine mM.one (v0:=.aj .nil []) (by intro i h;cases h) (by simp only[iD,go_sem,Nat.reduceBEq, *];exact Is.rfl) (.inl rfl)
 |true=>
  refine CW.vO (by simp only[go_sem,Nat.reduceBEq,Nat.reduceAdd, *];exact Is.rfl) ?_
  refine CW.region ?_
  refine OW.o1 (by rfl) (fun S=>by simp only[go_sem,Nat.reduceBEq,Nat.reduceAdd, *];with_reducible exact Is.rfl) ?_
  refine OW.o1 (by rfl) (fun S=>by simp only[go_sem,Nat.reduceBEq,Nat.reduceAdd, *];with_reducible exact Is.rfl) ?_
  refine OW.o1 (by rfl) (fun S=>NI (by simp only[go_sem,Nat.reduceBEq, *]) e1) ?_
  refine OW.o1 (by rfl) (fun S=>adQ (by simp only[go_sem,Nat.reduceBEq, *]) (by simp only[go_sem,Nat.reduceBEq, *]) e6 e2) ?_
  refine OW.o1 (by rfl) (fun S=>by simp only[go_sem,Nat.reduceBEq,Nat.reduceAdd, *];with_reducible exact Is.rfl) ?_
  refine OW.o1 (by rfl) (fun S=>adT (k:=k) (by simp only[go_sem,Nat.reduceBEq, *]) (by simp only[go_sem,Nat.reduceBEq, *]) (by simp only[go_sem,Nat.reduceBEq, *]) e7 e1 e2 e10 e9 e8 rfl (by decide) rfl rfl (by decide) h0 h1) ?_
  refine OW.o1 (by rfl) (fun S=>by simp only[go_sem,Nat.reduceBEq,Nat.reduceAdd, *];with_reducible exact Is.rfl) ?_
  refine OW.o1 (by rfl) (fun S=>by simp only[go_sem,Nat.reduceBEq,Nat.reduceAdd, *];with_reducible exact Is.rfl) ?_
  refine OW.o1 (by rfl) (fun S=>adR (by simp only[go_sem,Nat.reduceBEq, *];rfl) (by simp only[go_sem,Nat.reduceBEq,List.length_nil, *];rfl) e6 e2) ?_
  refine OW.o1 (by rfl) (fun S=>by simp only[go_sem,Nat.reduceBEq,Nat.reduceAdd, *];with_reducible exact Is.rfl) ?_
  refine OW.nil (dh.n (dh.n ?_))
  refine CW.seq (CW.region ?_)
  refine OW.o1 (by rfl) (fun S=>by simp only[go_sem,Nat.reduceBEq,Nat.reduceAdd, *];with_reducible exact Is.rfl) ?_
  refine OW.o1 (by rfl) (fun S=>by simp only[go_sem,Nat.reduceBEq,Nat.reduceAdd, *];with_reducible exact Is.rfl) ?_
  refine OW.nil (dh.n ?_)
  refine CW.ret ?_
  rw[hres]
  refine mM.one (by intro i h;cases h) (by simp only[iD,go_sem,Nat.reduceBEq, *];exact Is.rfl) (.inr ⟨_,_,_,_,WB k (.int .i64 0),rfl, ?_⟩)
  simp only[go_sem,Nat.reduceBEq, *]
theorem aoM (k:Int) (h0:0≤k) (h1:k≤2^40):jK E 200 [.aj .nil [],.int .i64 k] 1 ah.init (WA 1):=by
 have hP:E.P=Tryz.prog:=rfl
 have e1:jy E.P 124=some 5:=by kernel_rfl
 have e2:bX E.P 5=some 1:=by kernel_rfl
 have e6:E.P.underlying 124=some (.slice 5):=by kernel_rfl
 have e7:E.P.underlying 3=some (.int .i64):=by kernel_rfl
 have e8:iC E.P 5=some (.int .u8 0):=by kernel_rfl
 have e9:iK E.P 5=some false:=by kernel_rfl
 have e10:pX E.P 5=some 1:=by kernel_rfl
 have e3:decide (k<0)=false:=decide_eq_false (by omega)
 have e4:IntKind.i64.wrap (k-0)=k:=by rw[Int.sub_zero];exact adP (by omega) (by omega)
 have e5:IntKind.i64.wrap (0-((0:Nat):Int))=0:=by decide
 have hres:Tryz.f200.results.toList=[.tmp 4]:=rfl
 refine jK.of (fn:=Tryz.f200) (c:=Tryz.f200.body.getD .skip) Tryz.func200 rfl (by kernel_rfl) ?_
 generalize hfr:({d:=1,om:=E.om 200,tm:=fun i=>([.aj .nil [],.int .i64 k]:List V).getD i ay}:Fr)=fr
 have a0:fr.tm 0= .aj .nil []:=by rw[←hfr];rfl
 have a1:fr.tm 1= .int .i64 k:=by rw[←hfr];rfl
 have a2:fr.om=true:=by rw[←hfr];rfl
 have a3:fr.d=1:=by rw[←hfr]
 clear hfr
 refine CW.seq (CW.region ?_)
 refine OW.o1 (by rfl) (fun S=>by simp only[go_sem,Nat.reduceBEq,Nat.reduceAdd, *];with_reducible exact Is.rfl) ?_
 refine OW.nil (dh.n ?_)
 refine CW.seq (CW.seq (CW.region ?_))
 refine OW.o1 (by rfl) (fun S=>by simp only[go_sem,Nat.reduceBEq,Nat.reduceAdd, *];with_reducible exact Is.rfl) ?_
 refine OW.o1 (by rfl) (fun S=>by simp only[go_sem,Nat.reduceBEq,Nat.reduceAdd, *];with_reducible exact Is.rfl) ?_
 refine OW.nil (dh.n ?_)
 refine CW.uq (by simp only[go_sem,Nat.reduceBEq,Nat.reduceAdd, *];exact Is.rfl) ?_
 refine CW.skip (dh.n ?_)
 refine CW.seq (CW.seq (CW.region ?_))
 refine OW.o1 (by rfl) (fun S=>by simp only[go_sem,Nat.reduceBEq,Nat.reduceAdd, *];with_reducible exact Is.rfl) ?_
 refine OW.o1 (by rfl) (fun S=>by simp only[go_sem,Nat.reduceBEq,Nat.reduceAdd, *];with_reducible exact Is.rfl) ?_
 refine OW.o1 (by rfl) (fun S=>NI (by simp only[go_sem,Nat.reduceBEq, *]) e1) ?_
 refine OW.o1 (by rfl) (fun S=>by simp only[go_sem,Nat.reduceBEq,Nat.reduceAdd, *];with_reducible exact Is.rfl) ?_
 refine OW.o1 (by rfl) (fun S=>by simp only[go_sem,Nat.reduceBEq,Nat.reduceAdd,List.length_nil, *];with_reducible exact Is.rfl) ?_
 refine OW.o1 (by rfl) (fun S=>by simp only[go_sem,Nat.reduceBEq,Nat.reduceAdd, *];with_reducible exact Is.rfl) ?_
 refine OW.o1 (by rfl) (fun S=>by simp only[go_sem,Nat.reduceBEq,Nat.reduceAdd, *];with_reducible exact Is.rfl) ?_
 refine OW.o1 (by rfl) (fun S=>by simp only[go_sem,Nat.reduceBEq,Nat.reduceAdd, *];with_reducible exact Is.rfl) ?_
 refine OW.nil (dh.n ?_)
 refine CW.seq (CW.region ?_)
 refine OW.o1 (by rfl) (fun S=>by simp only[go_sem,Nat.reduceBEq,Nat.reduceAdd, *];with_reducible exact Is.rfl) ?_
 refine OW.o1 (by rfl) (fun S=>by simp only[go_sem,Nat.reduceBEq,Nat.reduceAdd, *];with_reducible exact Is.rfl) ?_
 refine OW.nil (dh.n ?_)
 cases hk:decide (k>0) with
 |false=>
  refine CW.uq (by simp only[go_sem,Nat.reduceBEq,Nat.reduceAdd, *];exact Is.rfl) ?_
  refine CW.skip (dh.n (dh.n ?_))
  refine CW.seq (CW.region ?_)
  refine OW.o1 (by rfl) (fun S=>by simp only[go_sem,Nat.reduceBEq,Nat.reduceAdd, *];with_reducible exact Is.rfl) ?_
  refine OW.o1 (by rfl) (fun S=>by simp only[go_sem,Nat.reduceBEq,Nat.reduceAdd, *];with_reducible exact Is.rfl) ?_
  refine OW.nil (dh.n ?_)
  refine CW.ret ?_
  rw[hres]
  refine mM.one (v0:=.aj .nil []) (by intro i h;cases h) (by simp only[iD,go_sem,Nat.reduceBEq, *];exact Is.rfl) (.inl rfl)
 |true=>
  refine CW.vO (by simp only[go_sem,Nat.reduceBEq,Nat.reduceAdd, *];exact Is.rfl) ?_
  refine CW.region ?_
  refine OW.o1 (by rfl) (fun S=>by simp only[go_sem,Nat.reduceBEq,Nat.reduceAdd, *];with_reducible exact Is.rfl) ?_
  refine OW.o1 (by rfl) (fun S=>by simp only[go_sem,Nat.reduceBEq,Nat.reduceAdd, *];with_reducible exact Is.rfl) ?_
  refine OW.o1 (by rfl) (fun S=>NI (by simp only[go_sem,Nat.reduceBEq, *]) e1) ?_
  refine OW.o1 (by rfl) (fun S=>adQ (by simp only[go_sem,Nat.reduceBEq, *]) (by simp only[go_sem,Nat.reduceBEq, *]) e6 e2) ?_
  refine OW.o1 (by rfl) (fun S=>by simp only[go_sem,Nat.reduceBEq,Nat.reduceAdd, *];with_reducible exact Is.rfl) ?_
  refine OW.o1 (by rfl) (fun S=>adT (k:=k) (by simp only[go_sem,Nat.reduceBEq, *]) (by simp only[go_sem,Nat.reduceBEq, *]) (by simp only[go_sem,Nat.reduceBEq, *]) e7 e1 e2 e10 e9 e8 rfl (by decide) rfl rfl (by decide) h0 h1) ?_
  refine OW.o1 (by rfl) (fun S=>by simp only[go_sem,Nat.reduceBEq,Nat.reduceAdd, *];with_reducible exact Is.rfl) ?_
  refine OW.o1 (by rfl) (fun S=>by simp only[go_sem,Nat.reduceBEq,Nat.reduceAdd, *];with_reducible exact Is.rfl) ?_
  refine OW.o1 (by rfl) (fun S=>adR (by simp only[go_sem,Nat.reduceBEq, *];rfl) (by simp only[go_sem,Nat.reduceBEq,List.length_nil, *];rfl) e6 e2) ?_
  refine OW.o1 (by rfl) (fun S=>by simp only[go_sem,Nat.reduceBEq,Nat.reduceAdd, *];with_reducible exact Is.rfl) ?_
  refine OW.nil (dh.n (dh.n ?_))
  refine CW.seq (CW.region ?_)
  refine OW.o1 (by rfl) (fun S=>by simp only[go_sem,Nat.reduceBEq,Nat.reduceAdd, *];with_reducible exact Is.rfl) ?_
  refine OW.o1 (by rfl) (fun S=>by simp only[go_sem,Nat.reduceBEq,Nat.reduceAdd, *];with_reducible exact Is.rfl) ?_
  refine OW.nil (dh.n ?_)
  refine CW.ret ?_
  rw[hres]
  refine mM.one (by intro i h;cases h) (by simp only[iD,go_sem,Nat.reduceBEq, *];exact Is.rfl) (.inr ⟨_,_,_,_,WB k (.int .u8 0),rfl, ?_⟩)
  simp only[go_sem,Nat.reduceBEq, *]
theorem adU {f sz:Nat} {l:List V} {k:Int} (h:jK E f [.aj .nil [],.int .i64 k] 1 ah.init (WA sz)):nC E f [.aj .nil [],.int .i64 k] sz []:=by
 obtain⟨n,v,σ1,h1,h2⟩:=h
 refine⟨n,v,σ1,h1,fun st σ=> ?_⟩
 rcases h2 with rfl| ⟨loc,s,cap,ag,cs,rfl,hc⟩
 ·exact .inl ⟨.nil,.inl rfl,rfl⟩
 ·exact .inr (by unfold qK;dsimp only;rw[if_pos ⟨rfl,rfl⟩,hc];rfl)
theorem adV {k:Int} {x:List Int} (h:DY k=some x):0≤k∧k≤2^40∧x=[]:=by
 unfold DY at h
 split at h
 ·rename_i hk;cases h;exact⟨hk.1,hk.2,rfl⟩
 ·cases h
theorem aoN:∀u p x,DZ (u,p)=some x→nC E 199 (.aj .nil []::bG R [.d (.int .i64)] p) (dB R (.int .i64)) (x.map (aD R (.int .i64))):=by
 intro u p x h
 unfold DZ at h
 obtain⟨h0,h1,rfl⟩:=adV h
 exact adU (l:=[]) (aoL p h0 h1)
theorem aoO:∀u p x,D5 (u,p)=some x→nC E 200 (.aj .nil []::bG R [.d (.int .i64)] p) (dB R (.int .u8)) (x.map (aD R (.int .u8))):=by
 intro u p x h
 unfold D5 at h
 obtain⟨h0,h1,rfl⟩:=adV h
 exact adU (l:=[]) (aoM p h0 h1)
noncomputable def NJ (_:Nat):Nat→List (FR R):=aV 200 ⟨NH,[.d (.slice (.int .u8))],D5,[],true⟩ (aV 199 ⟨NH,[.d (.slice (.int .i64))],DZ,[],true⟩ noF)
theorem adW (n:Nat):aO E (NJ n):=adE (adE aoG aoN) aoO
end Sh
end
section
open Go Go.Proofs Aq
namespace Sh
set_option maxRecDepth 100000
set_option linter.unusedSimpArgs false
set_option linter.unusedVariables false
def sW (root:List au→Option au) (split:Int→Option Int):Nat→List au→Int→Option (List au)
 |0,_,_=>none
 |g+1,l,i=>bif Nat.beq l.length 1 then some [] else (split ((l.length:Nat):Int)).bind fun k=>bif decide (0≤k∧k≤((l.length:Nat):Int)) then
   (bif decide (i<k) then (sW root split g (l.take k.toNat) i).bind fun p=>(root (l.drop k.toNat)).map fun d=>p++[d]
    else (sW root split g (l.drop k.toNat) (IntKind.wrap .i64 (i-k))).bind fun p=>(root (l.take k.toNat)).map fun d=>p++[d]) else none
structure PS (σ:ah) (s6 s7:Nat) (acc:List au):Prop where
 c6:∃c,σ.bY (1,6) s6=some [.aj c (acc.map au.v)]∧xE 16 σ c acc.length
 c7:σ.bY (1,7) s7=some [.fn (.func 109) [] [.ref (1,7) s7 0,.ref (1,6) s6 0]]
section
variable {E:Env} {S:je} {fr:Fr} {σ:ah} {st ty:Nat} {pos:String} {bK:Array Edge} {gd:Option (Nat×Bool)}
def Aj (c:Cap) (k:Int):Cap:=if k.toNat=0 then c else match c with
 |.full=>.full
 |_=>.sh
theorem aoP {d:Option Nat} {f:FuncId} {a b:List Operand}:opC E S fr σ st ⟨d,.makeFunc (.func f) a.toArray b.toArray,ty,pos,bK,gd⟩=some (.fn (.func f) (a.map (fr.ev E)) (b.map (fr.ev E)),fr,σ):=rfl
theorem adX {d:Option Nat} {x h m:Operand} {t e:TypeId} {sz:Nat} {c:Cap} {l:List V} {k:Int} (hx:fr.ev E x= .aj c l) (hh:fr.ev E h= .int .i64 k) (hm:fr.ev E m= .int .i64 k) (hu:E.P.underlying t=some (.slice e)) (hs:bX E.P e=some sz) (hz:kV sz l=true) (h0:0≤k) (h1:k≤(l.length:Nat)):
 opC E S fr σ st ⟨d,.slice t x none (some h) (some m),ty,pos,bK,gd⟩=some (.aj .full (l.take k.toNat),fr,σ):=by
 show Option.map _ ((j6 E.P σ t (fr.ev E x) none (some (fr.ev E h)) (some (fr.ev E m))).map fun v=>(v,σ))=_
 rw[hx,hh,hm]
 unfold j6
 rw[hu];dsimp only
 rw[hs,Option.bind_some]
 have:jI l.length l.length none (some (.int .i64 k)) (some (.int .i64 k))=some (0,k.toNat,k.toNat):=by
  unfold jI bnd kI
  simp only[Option.bind_some]
  rw[if_pos ⟨h0,h1⟩,Option.bind_some]
  rw[if_pos ⟨h0,by omega⟩,Option.bind_some]
 rw[this,Option.bind_some,if_pos hz,if_neg (by simp)]
 simp
theorem adY {d:Option Nat} {x h:Operand} {t e:TypeId} {sz:Nat} {c:Cap} {l:List V} {k:Int} (hx:fr.ev E x= .aj c l) (hh:fr.ev E h= .int .i64 k) (hu:E.P.underlying t=some (.slice e)) (hs:bX E.P e=some sz) (hz:kV sz l=true) (h0:0≤k) (h1:k≤(l.length:Nat)):
 opC E S fr σ st ⟨d,.slice t x (some h) none none,ty,pos,bK,gd⟩=some (.aj (Aj c k) (l.drop k.toNat),fr,σ):=by
 have:jI l.length l.length (some (.int .i64 k)) none none=some (k.toNat,l.length,l.length):=by
  unfold jI bnd kI
  simp only[Option.bind_some]
  rw[if_pos ⟨h0,h1⟩,Option.bind_some]
 show Option.map _ ((j6 E.P σ t (fr.ev E x) (some (fr.ev E h)) none none).map fun v=>(v,σ))=_
 rw[hx,hh]
 unfold j6 Aj
 rw[hu];dsimp only
 rw[hs,Option.bind_some,this,Option.bind_some,if_pos hz]
 by_cases hk:k.toNat=0
 ·rw[if_pos ⟨hk,rfl,rfl⟩,if_pos hk,hk];rfl
 ·rw[if_neg (fun e=>hk e.1),if_neg hk,List.take_length]
  cases c<;>simp
end
theorem adZ {σ:ah} {c:Cap} {n:Nat} (h:xE 16 σ c n) (k:Nat):xE 16 (σ.bump k) c n:=by
 rcases h with rfl| ⟨s,rfl,h4,h5⟩
 ·exact .inl rfl
 ·exact .inr ⟨s,rfl,h4,Nat.lt_of_lt_of_le h5 (Nat.le_add_right _ _)⟩
theorem PS.bump {σ:ah} {s6 s7 k:Nat} {acc:List au} (h:PS σ s6 s7 acc):PS (σ.bump k) s6 s7 acc:=by
 obtain⟨⟨c,h1,h2⟩,h3⟩:=h
 refine⟨⟨c,h1, ?_⟩,h3⟩
 rcases h2 with rfl| ⟨s,rfl,h4,h5⟩
 ·exact .inl rfl
 ·exact .inr ⟨s,rfl,h4,Nat.lt_of_lt_of_le h5 (Nat.le_add_right _ _)⟩
theorem imp_mono {E:Env} {f:FuncId} {args:List V} {d:Nat} {σ:ah} {Q Q':V→ah→Prop} (h:jK E f args d σ Q) (hq:∀v σ',Q v σ'→Q' v σ'):jK E f args d σ Q':=
 let ⟨n,v,σ',h1,h2⟩:=h;⟨n,v,σ',h1,hq _ _ h2⟩
theorem yw (l:List au):qV 16 (l.map au.v)=true:=amD (f:=au.v) (sz:=16) (fun x=>⟨by rw[au.cells];exact au.len x,by rw[au.cells];exact au.one x⟩) l
theorem ad1 (l:List au):bf (l.map au.v)=true:=by
 induction l with
 |nil=>rfl
 |cons a l ih=>simp only[List.map_cons,bf,au.pc,ih,Bool.and_self]
theorem ad2 (σ:ah) (c:Cap) (l:List au):Is (([]++[V.aj c (l.map au.v)]++[]).mapM (aQ 20 σ)) (some [lv au.v l]):=by
 show List.mapM (aQ 20 σ) [V.aj c (l.map au.v)]=_
 rw[List.mapM_cons,uw (n:=18) c l au.pc];rfl
theorem ad3 (c:Cap) (l:List au) (d:au):Is ((([]++[V.aj c (l.map au.v)]++[]).all fun x=>aA (er x))||flat d.v) true:=by
 show ((aA (.aj .sh (l.map au.v))&& true)||flat d.v)=true
 rw[show aA (.aj .sh (l.map au.v))=bf (l.map au.v) from by simp[aA],ad1];rfl
theorem aoQ (c:Cap) (l:List au):aA (er (V.aj c (l.map au.v)))=true:=by
 show aA (.aj .sh (l.map au.v))=true
 rw[show aA (.aj .sh (l.map au.v))=bf (l.map au.v) from by simp[aA],ad1]
theorem ad4 (d:au):wZ E 70 1 [(0,d.v)]=some (.aj .full [d.v]):=by kernel_rfl
theorem ad5 {σ:ah} {c:Cap} {l:List au} {d:au} {c2:Cap} (hc:xE 16 σ c l.length) (hl:l.length<2^30) (st:Nat):∃s',xG Tryz.prog σ st 70 70 (.aj c (l.map au.v)) (.aj c2 [d.v])=some (.aj (.own 16 s') ((l++[d]).map au.v),σ.cO s' (l.length+1))∧(s'<σ.next∨s'=st):=by
 have ha:zK Tryz.prog 70 70 16 16 (.agg (List.replicate 16 (.int .u8 0))):=by
  refine zK.mk 44 true ?_ ?_ ?_ ?_ ?_ rfl (by decide) rfl ?_<;>kernel_rfl
 have hr:bC ((l.map au.v).length+[d.v].length) 16=true:=by
  unfold bC
  simp only[List.length_map,List.length_cons,List.length_nil,Bool.and_eq_true,decide_eq_true_eq]
  omega
 rcases hc with rfl| ⟨s,rfl,h4,h5⟩
 ·refine⟨st, ?_,.inr rfl⟩
  have h:=amG (σ:=σ) (st:=st) (c2:=c2) ha (yw [d]) (yw l) hr
  exact h.trans (by simp)
 ·refine⟨s, ?_,.inl h5⟩
  have h:=amF (σ:=σ) (st:=st) (c2:=c2) ha (yw [d]) (yw l) hr (by rw[List.length_map];exact h4)
  exact h.trans (by simp)
theorem ad6 {root:List au→Option au} {split:Int→Option Int}:∀(g:Nat) (l:List au) (i:Int) (p:List au),sW root split g l i=some p→p.length<g:=by
 intro g
 induction g with
 |zero=>intro l i p h;cases h
 |succ g ih=>
  intro l i p h
  unfold sW at h
  cases hb:Nat.beq l.length 1 with
  |true=>rw[hb,cond_true] at h;cases h;simp
  |false=>
   rw[hb,cond_false,Option.bind_eq_some_iff] at h
   obtain⟨k,_,h⟩:=h
   cases hk:decide (0≤k∧k≤((l.length:Nat):Int)) with
   |false=>rw[hk] at h;cases h
   |true=>
    rw[hk,cond_true] at h
    cases hi:decide (i<k) with
    |true=>
     rw[hi,cond_true,Option.bind_eq_some_iff] at h
     obtain⟨q,hq,h⟩:=h
     rw[Option.map_eq_some_iff] at h
     obtain⟨d,_,rfl⟩:=h
     have:=ih _ _ _ hq;simp;omega
    |false=>
     rw[hi,cond_false,Option.bind_eq_some_iff] at h
     obtain⟨q,hq,h⟩:=h
     rw[Option.map_eq_some_iff] at h
     obtain⟨d,_,rfl⟩:=h
     have:=ih _ _ _ hq;simp;omega
theorem ad7 {all:List Oper} {fr:Fr} {d x ty:Nat} {pos:String} {bK:Array Edge} {c:Cap} {l:List au} (hx:fr.tm x= .aj c (l.map au.v)):
 Is (dA E all fr ⟨some d,.call ⟨.value (.func 67), #[.tmp x], #[70]⟩,ty,pos,bK,none⟩ true) ⟨false,false,[.slot x],[.slot d]⟩:=by
 have hf:dG E fr ⟨some d,.call ⟨.value (.func 67), #[.tmp x], #[70]⟩,ty,pos,bK,none⟩=fD []:=by
  unfold dG
  have h1:lX E fr ⟨some d,.call ⟨.value (.func 67), #[.tmp x], #[70]⟩,ty,pos,bK,none⟩ (.func 67)=false:=Gw (g:=67) (a:=[]) (b:=[]) rfl (fun _ _=>rfl)
  have h2:fr.ev E (.func 67)= .fn (.func 67) [] []:=rfl
  have h3:E.imp 67=false:=rfl
  have h4:(([]++(#[Operand.tmp x].toList.map (fr.ev E))++[]).all fun v=>aA (er v))=true:=by
   show (aA (er (fr.tm x))&& true)=true
   rw[hx,aoQ];rfl
  simp only[h1,h2,h3,h4,if_true,if_false,Bool.false_eq_true]
 show (⟨(dG E fr _).zx,(dG E fr _).su,_++(dG E fr _).t,_++(dG E fr _).w⟩:eG)=_
 rw[hf];rfl
theorem aoR {root:List au→Option au} {split:Int→Option Int} (hroot:∀p x,root p=some x→Pure E 67 [lv au.v p] x.v) (hsplit:∀p x,split p=some x→Pure E 110 [.int .i64 p] (.int .i64 x)):
 ∀(g:Nat) (l:List au) (i:Int) (p:List au),sW root split g l i=some p→∀(dd:Nat) (σ:ah) (acc:List au) (s6 s7:Nat) (c0:Cap),1<dd→acc.length+g<2^30→PS σ s6 s7 acc→
  jK E 109 [.aj c0 (l.map au.v),.int .i64 i,.ref (1,7) s7 0,.ref (1,6) s6 0] dd σ (fun v σ'=>PS σ' s6 s7 (acc++p)∧σ.next≤σ'.next):=by
 intro g
 induction g with
 |zero=>intro l i p h;cases h
 |succ g ih=>
  intro l i p h dd σ acc s6 s7 c0 aw7 hlen hps
  have hP:E.P=Tryz.prog:=rfl
  have e1:gB Tryz.prog 172 [.fn (.func 109) [] [.ref (1,7) s7 0,.ref (1,6) s6 0]] 0=some (.fn (.func 109) [] [.ref (1,7) s7 0,.ref (1,6) s6 0]):=rfl
  have e2:bX E.P 44=some 16:=by kernel_rfl
  have e6:E.P.underlying 70=some (.slice 44):=by kernel_rfl
  have aoS:=hps
  obtain⟨⟨cp,hc6,hcp⟩,hc7⟩:=aoS
  have hres:Tryz.f109.results.toList=[]:=rfl
  refine jK.of (fn:=Tryz.f109) (c:=Tryz.f109.body.getD .skip) Tryz.func109 rfl (by kernel_rfl) ?_
  generalize hfr:({d:=dd,om:=E.om 109,tm:=fun j=>([.aj c0 (l.map au.v),.int .i64 i,.ref (1,7) s7 0,.ref (1,6) s6 0]:List V).getD j ay}:Fr)=fr
  have a0:fr.tm 0= .aj c0 (l.map au.v):=by rw[←hfr];rfl
  have a1:fr.tm 1= .int .i64 i:=by rw[←hfr];rfl
  have a2:fr.tm 2= .ref (1,7) s7 0:=by rw[←hfr];rfl
  have a3:fr.tm 3= .ref (1,6) s6 0:=by rw[←hfr];rfl
  have hd:fr.d=dd:=by rw[←hfr]
  have bS:fr.om=false:=by rw[←hfr];rfl
  clear hfr
  have hmap:(l.map au.v).length=l.length:=List.length_map ..
  refine CW.seq (CW.seq (CW.region ?_))
  refine OW.o1 (by rfl) (fun S=>by simp only[go_sem,Nat.reduceBEq,Nat.reduceAdd, *];with_reducible exact Is.rfl) ?_
  refine OW.o1 (by rfl) (fun S=>by simp only[go_sem,Nat.reduceBEq,Nat.reduceAdd, *];with_reducible exact Is.rfl) ?_
  refine OW.o1 (by rfl) (fun S=>by simp only[go_sem,Nat.reduceBEq,Nat.reduceAdd, *];with_reducible exact Is.rfl) ?_
  refine OW.nil (dh.n ?_)
  unfold sW at h
  cases hb:Nat.beq l.length 1 with
  |true=>
   rw[hb,cond_true] at h
   cases h
   have hl:l.length=1:=Nat.eq_of_beq_eq_true hb
   refine CW.vO (by simp only[go_sem,Nat.reduceBEq,Nat.reduceAdd, *];exact Is.rfl) (CW.ret ?_)
   rw[hres]
   exact⟨[],rfl,by rw[List.append_nil];exact PS.bump hps,Nat.le_add_right _ _⟩
  |false=>
   have hl:l.length≠1:=fun e=>by rw[e] at hb;cases hb
   have hl':(((l.length:Nat):Int)==1)=false:=by simp;omega
   rw[hb,cond_false,Option.bind_eq_some_iff] at h
   obtain⟨k,hk,h⟩:=h
   cases hkk:decide (0≤k∧k≤((l.length:Nat):Int)) with
   |false=>rw[hkk] at h;cases h
   |true=>
   rw[hkk,cond_true] at h
   obtain⟨k0,k1⟩:=of_decide_eq_true hkk
   refine CW.uq (by simp only[go_sem,Nat.reduceBEq,Nat.reduceAdd, *];exact Is.rfl) (CW.skip (dh.n ?_))
   refine CW.seq (CW.region ?_)
   refine OW.o1 (by rfl) (fun S=>by simp only[go_sem,Nat.reduceBEq,Nat.reduceAdd, *];with_reducible exact Is.rfl) ?_
   refine OW.o1 (by rfl) (fun S=>by simp only[go_sem,Nat.reduceBEq,Nat.reduceAdd, *];with_reducible exact Is.rfl) ?_
   refine OW.Mq (hsplit _ _ hk) (by rfl) (by simp only[go_sem,Nat.reduceBEq,Nat.reduceAdd,hmap, *];exact Is.rfl) (by simp only[go_sem,Nat.reduceBEq,Nat.reduceAdd, *];exact Is.rfl) (by rfl) ?_
   refine OW.o1 (by rfl) (fun S=>by simp only[go_sem,Nat.reduceBEq,Nat.reduceAdd, *];with_reducible exact Is.rfl) ?_
   refine OW.nil (dh.n ?_)
   refine CW.seq (CW.region ?_)
   refine OW.o1 (by rfl) (fun S=>by simp only[go_sem,Nat.reduceBEq,Nat.reduceAdd, *];with_reducible exact Is.rfl) ?_
   refine OW.o1 (by rfl) (fun S=>by simp only[go_sem,Nat.reduceBEq,Nat.reduceAdd, *];with_reducible exact Is.rfl) ?_
   refine OW.o1 (by rfl) (fun S=>by simp only[go_sem,Nat.reduceBEq,Nat.reduceAdd, *];with_reducible exact Is.rfl) ?_
   refine OW.nil (dh.n ?_)
   cases hik:decide (i<k) with
   |true=>
    rw[hik,cond_true,Option.bind_eq_some_iff] at h
    obtain⟨q,hq,h⟩:=h
    rw[Option.map_eq_some_iff] at h
    obtain⟨dg,hdg,rfl⟩:=h
    refine CW.vO (by simp only[go_sem,Nat.reduceBEq,Nat.reduceAdd, *];exact Is.rfl) ?_
    refine CW.seq (CW.drw (fun _=> ?_) (by kernel_rfl))
    refine bL.o1 (by rfl) (fun S=>by simp only[go_sem,Nat.reduceBEq,Nat.reduceAdd, *];with_reducible exact Is.rfl) (by simp only[go_sem,Nat.reduceBEq,Nat.reduceAdd,dA,dG,gD,eZ,fu,fD,fM,dM, *];with_reducible exact Is.rfl) ?_
    refine bL.o1 (by rfl) (fun S=>by simp only[go_sem,Nat.reduceBEq,Nat.reduceAdd, *];with_reducible exact Is.rfl) (by simp only[go_sem,Nat.reduceBEq,Nat.reduceAdd,dA,dG,gD,eZ,fu,fD,fM,dM, *];with_reducible exact Is.rfl) ?_
    refine bL.o1 (by rfl) (fun S=>by simp only[go_sem,Nat.reduceBEq,Nat.reduceAdd, *];with_reducible exact Is.rfl) (by simp only[go_sem,Nat.reduceBEq,Nat.reduceAdd,dA,dG,gD,eZ,fu,fD,fM,dM, *];with_reducible exact Is.rfl) ?_
    refine bL.o1 (by rfl) (fun S=>by simp only[go_sem,Nat.reduceBEq,Nat.reduceAdd, *];with_reducible exact Is.rfl) (by simp only[go_sem,Nat.reduceBEq,Nat.reduceAdd,dA,dG,gD,eZ,fu,fD,fM,dM, *];with_reducible exact Is.rfl) ?_
    refine bL.o1 (v:=.aj .full ((l.take k.toNat).map au.v)) (by rfl) (fun S=>by rw[List.map_take];exact adX (c:=c0) (by simp only[go_sem,Nat.reduceBEq, *]) (by simp only[go_sem,Nat.reduceBEq, *]) (by simp only[go_sem,Nat.reduceBEq, *]) e6 e2 (zL (yw l)) k0 (by rw[hmap];exact k1)) (by simp only[go_sem,Nat.reduceBEq,Nat.reduceAdd,dA,dG,gD,eZ,fu,fD,fM,dM, *];with_reducible exact Is.rfl) ?_
    refine bL.o1 (by rfl) (fun S=>by simp only[go_sem,Nat.reduceBEq,Nat.reduceAdd, *];with_reducible exact Is.rfl) (by simp only[go_sem,Nat.reduceBEq,Nat.reduceAdd,dA,dG,gD,eZ,fu,fD,fM,dM, *];with_reducible exact Is.rfl) ?_
    refine bL.Cx (g:=109) (a:=[]) (b:=[.ref (1,7) s7 0,.ref (1,6) s6 0]) (by rfl) rfl rfl (by simp only[go_sem,Nat.reduceBEq,Nat.reduceAdd, *]) rfl ?_
    simp only[qU,xC,hd]
    change jK E 109 [.aj .full ((l.take k.toNat).map au.v),.int .i64 i,.ref (1,7) s7 0,.ref (1,6) s6 0] (dd+1) _ _
    obtain⟨n,v,σ1,hn,H6,hnx⟩:=ih _ _ _ hq (dd+1) _ acc s6 s7 .full (by omega) (by omega) (PS.bump (PS.bump (PS.bump (PS.bump hps))))
    refine⟨n,v,σ1,hn, ?_⟩
    refine bL.nil (by kernel_rfl) (NQ.i (dh.n ?_))
    obtain⟨⟨cq,aoT,hcq⟩,WC⟩:=H6
    refine CW.abr (fun nk H7=> ?_) (by kernel_rfl)
    have hnk:7<nk:=by rw[H7];decide
    clear H7
    refine bL.o1 (by rfl) (fun S=>by simp only[go_sem,Nat.reduceBEq,Nat.reduceAdd, *];with_reducible exact Is.rfl) (by simp only[go_sem,Nat.reduceBEq,Nat.reduceAdd,dA,dG,gD,eZ,fu,fD,fM,dM, *];with_reducible exact Is.rfl) ?_
    refine bL.o1 (by rfl) (fun S=>by simp only[go_sem,Nat.reduceBEq,Nat.reduceAdd, *];with_reducible exact Is.rfl) (by simp only[go_sem,Nat.reduceBEq,Nat.reduceAdd,dA,dG,gD,eZ,fu,fD,fM,dM, *];with_reducible exact Is.rfl) ?_
    refine bL.o1 (by rfl) (fun S=>by simp only[go_sem,Nat.reduceBEq,Nat.reduceAdd, *];with_reducible exact Is.rfl) (by simp only[go_sem,Nat.reduceBEq,Nat.reduceAdd,dA,dG,gD,eZ,fu,fD,fM,dM, *];with_reducible exact Is.rfl) ?_
    refine bL.o1 (v:=.aj (Aj c0 k) ((l.drop k.toNat).map au.v)) (by rfl) (fun S=>by rw[List.map_drop];exact adY (c:=c0) (by simp only[go_sem,Nat.reduceBEq, *]) (by simp only[go_sem,Nat.reduceBEq, *]) e6 e2 (zL (yw l)) k0 (by rw[hmap];exact k1)) (by simp only[go_sem,Nat.reduceBEq,Nat.reduceAdd,dA,dG,gD,eZ,fu,fD,fM,dM, *];with_reducible exact Is.rfl) ?_
    refine bL.Mq (hroot _ _ hdg) (by rfl) (by simp only[go_sem,Nat.reduceBEq,Nat.reduceAdd, *];exact ad2 _ _ _) (by simp only[go_sem,Nat.reduceBEq,Nat.reduceAdd, *];exact ad3 _ _ _) (by rfl) (ad7 (c:=Aj c0 k) (l:=l.drop k.toNat) (by simp only[go_sem,Nat.reduceBEq, *])) ?_
    refine bL.o1 (v:=.aj .full [dg.v]) (by rfl) (fun S=>by simp only[go_sem,Nat.reduceBEq,Nat.reduceAdd,ad4, *];with_reducible exact Is.rfl) (by simp only[go_sem,Nat.reduceBEq,Nat.reduceAdd,dA,dG,gD,eZ,fu,fD,fM,dM, *];with_reducible exact Is.rfl) ?_
    obtain⟨s',hs',hs2⟩:=ad5 (σ:=σ1.bump nk) (c2:=.full) (d:=dg) (l:=acc++q) (adZ hcq nk) (by have:=ad6 _ _ _ _ hq;rw[List.length_append];omega) (σ1.next+1+1+1+1+1+1)
    refine bL.o1 (v:=.aj (.own 16 s') ((acc++q++[dg]).map au.v)) (σ1:=(σ1.bump nk).cO s' ((acc++q).length+1)) (by rfl) (fun S=> ?_) (by simp only[go_sem,Nat.reduceBEq,Nat.reduceAdd,dA,dG,gD,eZ,fu,fD,fM,dM, *];with_reducible exact Is.rfl) ?_
    ·rw[UN (c:=cq) (l:=(acc++q).map au.v) (by simp only[go_sem,Nat.reduceBEq, *]) (by simp only[go_sem,Nat.reduceBEq, *])]
     simp only[go_sem,Nat.reduceBEq,Nat.reduceAdd, *]
     exact Is.rfl
    refine bL.o0 (by rfl) (fun S=>by simp only[go_sem,Nat.reduceBEq,Nat.reduceAdd, *];rw[if_pos (by decide)];exact Is.rfl) (by simp only[go_sem,Nat.reduceBEq,Nat.reduceAdd,dA,dG,gD,eZ,fu,fD,fM,dM, *];with_reducible exact Is.rfl) ?_
    refine bL.nil (by kernel_rfl) (NQ.i ?_)
    rw[hres]
    refine⟨[],rfl, ?_⟩
    show PS _ _ _ (acc++(q++[dg]))∧_
    rw[←List.append_assoc]
    refine⟨⟨⟨_,nU _ _ _ _,.inr ⟨s',rfl, ?_, ?_⟩⟩, ?_⟩, ?_⟩
    ·show upd σ1.top s' _ s'=_
     simp[upd];omega
    ·show s'<σ1.next+nk
     rcases hs2 with h2|h2
     ·exact h2
     ·omega
    ·rw[Cz _ _ _ _ (by decide)];exact WC
    ·show σ.next≤σ1.next+nk
     have:σ.next≤σ1.next:=Nat.le_trans (Nat.le_trans (Nat.le_trans (Nat.le_trans (Nat.le_add_right _ _) (Nat.le_add_right _ _)) (Nat.le_add_right _ _)) (Nat.le_add_right _ _)) hnx
     omega
   |false=>
    rw[hik,cond_false,Option.bind_eq_some_iff] at h
    obtain⟨q,hq,h⟩:=h
    rw[Option.map_eq_some_iff] at h
    obtain⟨dg,hdg,rfl⟩:=h
    refine CW.uq (by simp only[go_sem,Nat.reduceBEq,Nat.reduceAdd, *];exact Is.rfl) ?_
    refine CW.seq (CW.drw (fun _=> ?_) (by kernel_rfl))
    refine bL.o1 (by rfl) (fun S=>by simp only[go_sem,Nat.reduceBEq,Nat.reduceAdd, *];with_reducible exact Is.rfl) (by simp only[go_sem,Nat.reduceBEq,Nat.reduceAdd,dA,dG,gD,eZ,fu,fD,fM,dM, *];with_reducible exact Is.rfl) ?_
    refine bL.o1 (by rfl) (fun S=>by simp only[go_sem,Nat.reduceBEq,Nat.reduceAdd, *];with_reducible exact Is.rfl) (by simp only[go_sem,Nat.reduceBEq,Nat.reduceAdd,dA,dG,gD,eZ,fu,fD,fM,dM, *];with_reducible exact Is.rfl) ?_
    refine bL.o1 (by rfl) (fun S=>by simp only[go_sem,Nat.reduceBEq,Nat.reduceAdd, *];with_reducible exact Is.rfl) (by simp only[go_sem,Nat.reduceBEq,Nat.reduceAdd,dA,dG,gD,eZ,fu,fD,fM,dM, *];with_reducible exact Is.rfl) ?_
    refine bL.o1 (v:=.aj (Aj c0 k) ((l.drop k.toNat).map au.v)) (by rfl) (fun S=>by rw[List.map_drop];exact adY (c:=c0) (by simp only[go_sem,Nat.reduceBEq, *]) (by simp only[go_sem,Nat.reduceBEq, *]) e6 e2 (zL (yw l)) k0 (by rw[hmap];exact k1)) (by simp only[go_sem,Nat.reduceBEq,Nat.reduceAdd,dA,dG,gD,eZ,fu,fD,fM,dM, *];with_reducible exact Is.rfl) ?_
    refine bL.o1 (by rfl) (fun S=>by simp only[go_sem,Nat.reduceBEq,Nat.reduceAdd, *];with_reducible exact Is.rfl) (by simp only[go_sem,Nat.reduceBEq,Nat.reduceAdd,dA,dG,gD,eZ,fu,fD,fM,dM, *];with_reducible exact Is.rfl) ?_
    refine bL.o1 (by rfl) (fun S=>by simp only[go_sem,Nat.reduceBEq,Nat.reduceAdd, *];with_reducible exact Is.rfl) (by simp only[go_sem,Nat.reduceBEq,Nat.reduceAdd,dA,dG,gD,eZ,fu,fD,fM,dM, *];with_reducible exact Is.rfl) ?_
    refine bL.o1 (by rfl) (fun S=>by simp only[go_sem,Nat.reduceBEq,Nat.reduceAdd, *];with_reducible exact Is.rfl) (by simp only[go_sem,Nat.reduceBEq,Nat.reduceAdd,dA,dG,gD,eZ,fu,fD,fM,dM, *];with_reducible exact Is.rfl) ?_
    refine bL.Cx (g:=109) (a:=[]) (b:=[.ref (1,7) s7 0,.ref (1,6) s6 0]) (by rfl) rfl rfl (by simp only[go_sem,Nat.reduceBEq,Nat.reduceAdd, *]) rfl ?_
    simp only[qU,xC,hd]
    change jK E 109 [.aj (Aj c0 k) ((l.drop k.toNat).map au.v),.int .i64 (IntKind.wrap .i64 (i-k)),.ref (1,7) s7 0,.ref (1,6) s6 0] (dd+1) _ _
    obtain⟨n,v,σ1,hn,H6,hnx⟩:=ih _ _ _ hq (dd+1) _ acc s6 s7 (Aj c0 k) (by omega) (by omega) (PS.bump (PS.bump (PS.bump (PS.bump hps))))
    refine⟨n,v,σ1,hn, ?_⟩
    refine bL.nil (by kernel_rfl) (NQ.i (dh.n ?_))
    obtain⟨⟨cq,aoT,hcq⟩,WC⟩:=H6
    refine CW.abr (fun nk H7=> ?_) (by kernel_rfl)
    have hnk:7<nk:=by rw[H7];decide
    clear H7
    refine bL.o1 (by rfl) (fun S=>by simp only[go_sem,Nat.reduceBEq,Nat.reduceAdd, *];with_reducible exact Is.rfl) (by simp only[go_sem,Nat.reduceBEq,Nat.reduceAdd,dA,dG,gD,eZ,fu,fD,fM,dM, *];with_reducible exact Is.rfl) ?_
    refine bL.o1 (by rfl) (fun S=>by simp only[go_sem,Nat.reduceBEq,Nat.reduceAdd, *];with_reducible exact Is.rfl) (by simp only[go_sem,Nat.reduceBEq,Nat.reduceAdd,dA,dG,gD,eZ,fu,fD,fM,dM, *];with_reducible exact Is.rfl) ?_
    refine bL.o1 (by rfl) (fun S=>by simp only[go_sem,Nat.reduceBEq,Nat.reduceAdd, *];with_reducible exact Is.rfl) (by simp only[go_sem,Nat.reduceBEq,Nat.reduceAdd,dA,dG,gD,eZ,fu,fD,fM,dM, *];with_reducible exact Is.rfl) ?_
    refine bL.o1 (by rfl) (fun S=>by simp only[go_sem,Nat.reduceBEq,Nat.reduceAdd, *];with_reducible exact Is.rfl) (by simp only[go_sem,Nat.reduceBEq,Nat.reduceAdd,dA,dG,gD,eZ,fu,fD,fM,dM, *];with_reducible exact Is.rfl) ?_
    refine bL.o1 (v:=.aj .full ((l.take k.toNat).map au.v)) (by rfl) (fun S=>by rw[List.map_take];exact adX (c:=c0) (by simp only[go_sem,Nat.reduceBEq, *]) (by simp only[go_sem,Nat.reduceBEq, *]) (by simp only[go_sem,Nat.reduceBEq, *]) e6 e2 (zL (yw l)) k0 (by rw[hmap];exact k1)) (by simp only[go_sem,Nat.reduceBEq,Nat.reduceAdd,dA,dG,gD,eZ,fu,fD,fM,dM, *];with_reducible exact Is.rfl) ?_
    refine bL.Mq (hroot _ _ hdg) (by rfl) (by simp only[go_sem,Nat.reduceBEq,Nat.reduceAdd, *];exact ad2 _ _ _) (by simp only[go_sem,Nat.reduceBEq,Nat.reduceAdd, *];exact ad3 _ _ _) (by rfl) (ad7 (c:=.full) (l:=l.take k.toNat) (by simp only[go_sem,Nat.reduceBEq, *])) ?_
    refine bL.o1 (v:=.aj .full [dg.v]) (by rfl) (fun S=>by simp only[go_sem,Nat.reduceBEq,Nat.reduceAdd,ad4, *];with_reducible exact Is.rfl) (by simp only[go_sem,Nat.reduceBEq,Nat.reduceAdd,dA,dG,gD,eZ,fu,fD,fM,dM, *];with_reducible exact Is.rfl) ?_
    obtain⟨s',hs',hs2⟩:=ad5 (σ:=σ1.bump nk) (c2:=.full) (d:=dg) (l:=acc++q) (adZ hcq nk) (by have:=ad6 _ _ _ _ hq;rw[List.length_append];omega) (σ1.next+1+1+1+1+1+1+1)
    refine bL.o1 (v:=.aj (.own 16 s') ((acc++q++[dg]).map au.v)) (σ1:=(σ1.bump nk).cO s' ((acc++q).length+1)) (by rfl) (fun S=> ?_) (by simp only[go_sem,Nat.reduceBEq,Nat.reduceAdd,dA,dG,gD,eZ,fu,fD,fM,dM, *];with_reducible exact Is.rfl) ?_
    ·rw[UN (c:=cq) (l:=(acc++q).map au.v) (by simp only[go_sem,Nat.reduceBEq, *]) (by simp only[go_sem,Nat.reduceBEq, *])]
     simp only[go_sem,Nat.reduceBEq,Nat.reduceAdd, *]
     exact Is.rfl
    refine bL.o0 (by rfl) (fun S=>by simp only[go_sem,Nat.reduceBEq,Nat.reduceAdd, *];rw[if_pos (by decide)];exact Is.rfl) (by simp only[go_sem,Nat.reduceBEq,Nat.reduceAdd,dA,dG,gD,eZ,fu,fD,fM,dM, *];with_reducible exact Is.rfl) ?_
    refine bL.nil (by kernel_rfl) (NQ.i ?_)
    rw[hres]
    refine⟨[],rfl, ?_⟩
    show PS _ _ _ (acc++(q++[dg]))∧_
    rw[←List.append_assoc]
    refine⟨⟨⟨_,nU _ _ _ _,.inr ⟨s',rfl, ?_, ?_⟩⟩, ?_⟩, ?_⟩
    ·show upd σ1.top s' _ s'=_
     simp[upd];omega
    ·show s'<σ1.next+nk
     rcases hs2 with h2|h2
     ·exact h2
     ·omega
    ·rw[Cz _ _ _ _ (by decide)];exact WC
    ·show σ.next≤σ1.next+nk
     have:σ.next≤σ1.next:=Nat.le_trans (Nat.le_trans (Nat.le_trans (Nat.le_trans (Nat.le_add_right _ _) (Nat.le_add_right _ _)) (Nat.le_add_right _ _)) (Nat.le_add_right _ _)) hnx
     omega
def H8 (root:List au→Option au) (split:Int→Option Int) (l:List au) (i:Int):Option (List au×Int):=
 bif decide (i<0)||decide (i≥((l.length:Nat):Int)) then some ([],1) else bif decide (l.length<2^29) then (sW root split (l.length+1) l i).map fun p=>(p,0) else none
theorem WE (σ:ah) (c:Cap) (l:List au) (e:Int):aQ 20 σ (.bJ [.aj c (l.map au.v),.int .i64 e])=some (.bJ [lv au.v l,.int .i64 e]):=by
 rw[Ms (n:=18)]
 have h1:aQ 19 σ (.aj c (l.map au.v))=some (lv au.v l):=uw (n:=17) c l au.pc
 have h2:aQ 19 σ (.int .i64 e)=some (.int .i64 e):=jQ rfl
 rw[List.mapM_cons,h1,List.mapM_cons,h2];rfl
theorem aoU {root:List au→Option au} {split:Int→Option Int} (hroot:∀p x,root p=some x→Pure E 67 [lv au.v p] x.v) (hsplit:∀p x,split p=some x→Pure E 110 [.int .i64 p] (.int .i64 x)) {l:List au} {i:Int} {r:List au×Int} (h:H8 root split l i=some r):
 Pure E 63 [lv au.v l,.int .i64 i] (.bJ [lv au.v r.1,.int .i64 r.2]):=by
 have hP:E.P=Tryz.prog:=rfl
 have hres:Tryz.f63.results.toList=[.tmp 4,.tmp 5]:=rfl
 refine Pure.of (fn:=Tryz.f63) (c:=Tryz.f63.body.getD .skip) rfl Tryz.func63 rfl (by kernel_rfl) ?_
 generalize hfr:({d:=1,om:=E.om 63,tm:=fun j=>([lv au.v l,.int .i64 i]:List V).getD j ay}:Fr)=fr
 have a0:fr.tm 0=lv au.v l:=by rw[←hfr];rfl
 have a1:fr.tm 1= .int .i64 i:=by rw[←hfr];rfl
 have hd:fr.d=1:=by rw[←hfr]
 have bS:fr.om=false:=by rw[←hfr];rfl
 clear hfr
 have hmap:(l.map au.v).length=l.length:=List.length_map ..
 unfold H8 at h
 refine CW.seq (CW.region ?_)
 refine OW.o1 (by rfl) (fun S=>by simp only[go_sem,Nat.reduceBEq,Nat.reduceAdd, *];with_reducible exact Is.rfl) ?_
 refine OW.o1 (by rfl) (fun S=>by simp only[go_sem,Nat.reduceBEq,Nat.reduceAdd, *];with_reducible exact Is.rfl) ?_
 refine OW.nil (dh.n ?_)
 refine CW.seq (CW.seq (CW.region ?_))
 refine OW.o1 (by rfl) (fun S=>by simp only[go_sem,Nat.reduceBEq,Nat.reduceAdd, *];with_reducible exact Is.rfl) ?_
 refine OW.o1 (by rfl) (fun S=>by simp only[go_sem,Nat.reduceBEq,Nat.reduceAdd, *];with_reducible exact Is.rfl) ?_
 cases hi0:decide (i<0) with
 |true=>
  rw[hi0,Bool.true_or,cond_true] at h
  cases h
  refine OW.o1 (by rfl) (fun S=>by simp only[go_sem,Nat.reduceBEq,Nat.reduceAdd, *];with_reducible exact Is.rfl) ?_
  refine OW.s1 (by simp only[go_sem,Nat.reduceBEq,Nat.reduceAdd, *];with_reducible exact Is.rfl) ?_
  refine OW.s1 (by simp only[go_sem,Nat.reduceBEq,Nat.reduceAdd, *];with_reducible exact Is.rfl) ?_
  refine OW.s1 (by simp only[go_sem,Nat.reduceBEq,Nat.reduceAdd, *];with_reducible exact Is.rfl) ?_
  refine OW.s1 (by simp only[go_sem,Nat.reduceBEq,Nat.reduceAdd, *];with_reducible exact Is.rfl) ?_
  refine OW.o1 (by rfl) (fun S=>by rw[abl _ _ _ (by simp only[go_sem,Nat.reduceBEq, *])];simp only[go_sem,Nat.reduceBEq,Nat.reduceAdd, *];with_reducible exact Is.rfl) ?_
  refine OW.nil (dh.n ?_)
  refine CW.vO (by simp only[go_sem,Nat.reduceBEq,Nat.reduceAdd, *];exact Is.rfl) ?_
  refine CW.seq (CW.region ?_)
  refine OW.o1 (by rfl) (fun S=>by simp only[go_sem,Nat.reduceBEq,Nat.reduceAdd, *];with_reducible exact Is.rfl) ?_
  refine OW.o1 (by rfl) (fun S=>by simp only[go_sem,Nat.reduceBEq,Nat.reduceAdd, *];with_reducible exact Is.rfl) ?_
  refine OW.nil (dh.n (CW.ret (dh.r ?_)))
  rw[hres]
  refine mM.bJ (by intro i h;cases h) (by simp only[List.mapM_cons,List.mapM_nil,iD,go_sem,Nat.reduceBEq, *];exact Is.rfl) ?_
  exact WE _ .nil [] 1
 |false=>
  rw[hi0,Bool.false_or] at h
  refine OW.o1 (by rfl) (fun S=>by simp only[go_sem,Nat.reduceBEq,Nat.reduceAdd, *];with_reducible exact Is.rfl) ?_
  refine OW.o1 (by simp only[go_sem,Nat.reduceBEq,Nat.reduceAdd, *];with_reducible exact Is.rfl) (fun S=>by simp only[go_sem,Nat.reduceBEq,Nat.reduceAdd, *];with_reducible exact Is.rfl) ?_
  refine OW.o1 (by simp only[go_sem,Nat.reduceBEq,Nat.reduceAdd, *];with_reducible exact Is.rfl) (fun S=>by simp only[go_sem,Nat.reduceBEq,Nat.reduceAdd, *];with_reducible exact Is.rfl) ?_
  refine OW.o1 (by simp only[go_sem,Nat.reduceBEq,Nat.reduceAdd, *];with_reducible exact Is.rfl) (fun S=>by simp only[go_sem,Nat.reduceBEq,Nat.reduceAdd,lv,hmap, *];with_reducible exact Is.rfl) ?_
  refine OW.o1 (by simp only[go_sem,Nat.reduceBEq,Nat.reduceAdd, *];with_reducible exact Is.rfl) (fun S=>by simp only[go_sem,Nat.reduceBEq,Nat.reduceAdd, *];with_reducible exact Is.rfl) ?_
  refine OW.o1 (by rfl) (fun S=>by rw[abm _ _ _ (by simp only[go_sem,Nat.reduceBEq, *])];simp only[go_sem,Nat.reduceBEq,Nat.reduceAdd, *];with_reducible exact Is.rfl) ?_
  refine OW.nil (dh.n ?_)
  cases hi1:decide (i≥((l.length:Nat):Int)) with
  |true=>
   rw[hi1,cond_true] at h
   cases h
   refine CW.vO (by simp only[go_sem,Nat.reduceBEq,Nat.reduceAdd, *];exact Is.rfl) ?_
   refine CW.seq (CW.region ?_)
   refine OW.o1 (by rfl) (fun S=>by simp only[go_sem,Nat.reduceBEq,Nat.reduceAdd, *];with_reducible exact Is.rfl) ?_
   refine OW.o1 (by rfl) (fun S=>by simp only[go_sem,Nat.reduceBEq,Nat.reduceAdd, *];with_reducible exact Is.rfl) ?_
   refine OW.nil (dh.n (CW.ret (dh.r ?_)))
   rw[hres]
   refine mM.bJ (by intro i h;cases h) (by simp only[List.mapM_cons,List.mapM_nil,iD,go_sem,Nat.reduceBEq, *];exact Is.rfl) ?_
   exact WE _ .nil [] 1
  |false=>
   rw[hi1,cond_false] at h
   cases hlt:decide (l.length<2^29) with
   |false=>rw[hlt] at h;cases h
   |true=>
   have hlt':=of_decide_eq_true hlt
   rw[hlt,cond_true,Option.map_eq_some_iff] at h
   obtain⟨p,hp,rfl⟩:=h
   refine CW.uq (by simp only[go_sem,Nat.reduceBEq,Nat.reduceAdd, *];exact Is.rfl) (CW.skip (dh.n ?_))
   have z1:iC Tryz.prog 70=some (.aj .nil []):=by kernel_rfl
   have z2:iC Tryz.prog 172=some .fB:=by kernel_rfl
   refine CW.seq (CW.region ?_)
   refine OW.o1 (by rfl) (fun S=>by simp only[go_sem,Nat.reduceBEq,Nat.reduceAdd, *];with_reducible exact Is.rfl) ?_
   refine OW.nil (dh.n ?_)
   refine CW.seq (CW.region ?_)
   refine OW.o1 (by rfl) (fun S=>by simp only[go_sem,Nat.reduceBEq,Nat.reduceAdd, *];rw[if_pos (by decide)];exact Is.rfl) ?_
   refine OW.nil (dh.n ?_)
   refine CW.seq (CW.region ?_)
   refine OW.o1 (by rfl) (fun S=>by rw[aoP (a:=[]) (b:=[.tmp 7,.tmp 6])];simp only[List.map_cons,List.map_nil,go_sem,Nat.reduceBEq,Nat.reduceAdd, *];exact Is.rfl) ?_
   refine OW.o0 (by rfl) (fun S=>by simp only[go_sem,Nat.reduceBEq,Nat.reduceAdd, *];rw[if_pos (by decide)];exact Is.rfl) ?_
   refine OW.nil (dh.n ?_)
   refine CW.seq (CW.region ?_)
   refine OW.o1 (v:=.fn (.func 109) [] [.ref (1,7) _ 0,.ref (1,6) _ 0]) (by rfl) (fun S=>by simp only[go_sem,Nat.reduceBEq,Nat.reduceAdd, *];exact Is.rfl) ?_
   refine OW.o1 (by rfl) (fun S=>by simp only[go_sem,Nat.reduceBEq,Nat.reduceAdd, *];with_reducible exact Is.rfl) ?_
   refine OW.o1 (by rfl) (fun S=>by simp only[go_sem,Nat.reduceBEq,Nat.reduceAdd, *];with_reducible exact Is.rfl) ?_
   refine OW.Cx (g:=109) (a:=[]) (b:=[.ref (1,7) _ 0,.ref (1,6) _ 0]) (by rfl) rfl rfl (by simp only[go_sem,Nat.reduceBEq,Nat.reduceAdd, *];rfl) rfl ?_
   simp only[qU,xC,hd]
   refine imp_mono (aoR hroot hsplit _ _ _ _ hp 2 _ [] _ _ .sh (by decide) (by simp;omega) ⟨⟨.nil, ?c6,.inl rfl⟩, ?c7⟩) (fun v σ1 H6=> ?_)
   case c6=>rw[Gy,Cz _ _ _ _ (by decide),Gy,Cz _ _ _ _ (by decide),Gy];exact nU _ _ _ _
   case c7=>rw[Gy];exact nU _ _ _ _
   obtain⟨hps,hnx⟩:=H6
   refine OW.nil (dh.n ?_)
   obtain⟨⟨c,hc6,_⟩,_⟩:=hps
   refine CW.seq (CW.region ?_)
   refine OW.o1 (by rfl) (fun S=>by simp only[go_sem,Nat.reduceBEq,Nat.reduceAdd, *];with_reducible exact Is.rfl) ?_
   refine OW.o1 (by rfl) (fun S=>by simp only[go_sem,Nat.reduceBEq,Nat.reduceAdd, *];with_reducible exact Is.rfl) ?_
   refine OW.o1 (by rfl) (fun S=>by simp only[go_sem,Nat.reduceBEq,Nat.reduceAdd, *];with_reducible exact Is.rfl) ?_
   refine OW.nil (dh.n (CW.ret ?_))
   rw[hres]
   refine mM.bJ (by intro i h;cases h) (by simp only[List.mapM_cons,List.mapM_nil,iD,go_sem,Nat.reduceBEq, *];exact Is.rfl) ?_
   exact WE _ c ([]++p) 0
end Sh
end
section
open Go Go.Proofs Aq
namespace Sh
theorem aoV:Pure E 11 [] (.bool true):=⟨0,rfl⟩
end Sh
end
