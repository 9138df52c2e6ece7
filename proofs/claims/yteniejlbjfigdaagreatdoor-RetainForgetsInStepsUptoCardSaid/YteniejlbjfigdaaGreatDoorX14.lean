/- Part of the proof of a law. -/
import Derived.KernelRfl
import Derived.Test.YteniejlbjfigdaaGreatDoorX07
import Derived.Test.YteniejlbjfigdaaGreatDoorX13
set_option linter.all false
set_option linter.unusedSimpArgs false
set_option linter.unusedSectionVars false
section
open Go Go.Proofs Aq
namespace Sh
set_option maxRecDepth 100000
def Pred.re (x:Pred):Pred:=⟨x.Op,x.Name,x.N,x.M,x.S,x.bS⟩
theorem Pred.sw (x:Pred):x.re=x:=by cases x;rfl
def rT:Nat→Type
 |0=>Def
 |1=>aD
 |2=>Attr
 |3=>Entry
 |4=>Row
 |5=>Book
 |6=>dK
 |7=>Gone
 |8=>Pred
 |9=>Law
 |10=>gH
 |11=>Snapshot
 |12=>gI
 |13=>Event
 |14=>Query
 |15=>gJ
 |16=>dI
 |17=>gK
 |18=>aY
 |19=>gL
 |20=>gM
 |21=>bT
 |_+22=>Unit
def rd:(n:Nat)→rT n
 |0=>(⟨[],0,0,0,[]⟩:Def)
 |1=>(⟨0,0,[]⟩:aD)
 |2=>(⟨[],0,0,[]⟩:Attr)
 |3=>(⟨0,0,0,0,0,0,0,[],[]⟩:Entry)
 |4=>(⟨⟨0,0,0,0,0,0,0,[],[]⟩,0⟩:Row)
 |5=>(⟨⟨0,0,[]⟩,0,0,[],[]⟩:Book)
 |6=>(⟨0,0,0,0,0,0,0,0,0,0,0,0,0,0,0,0⟩:dK)
 |7=>(⟨0,0,0,0,⟨0,0,0,0,0,0,0,0,0,0,0,0,0,0,0,0⟩⟩:Gone)
 |8=>(⟨0,[],0,0,[],[]⟩:Pred)
 |9=>(⟨[],⟨0,[],0,0,[],[]⟩,0⟩:Law)
 |10=>(⟨⟨⟨0,0,[]⟩,0,0,[],[]⟩,[],0⟩:gH)
 |11=>(⟨0,0⟩:Snapshot)
 |12=>(⟨[],0⟩:gI)
 |13=>(⟨0,0,0,0,0,0,0,[],[],⟨0,0,0,0,0,0,0,0,0,0,0,0,0,0,0,0⟩⟩:Event)
 |14=>(⟨[],0,0,⟨0,[],0,0,[],[]⟩,⟨0,0⟩,0⟩:Query)
 |15=>(⟨0,0,0⟩:gJ)
 |16=>(⟨⟨⟨0,0,[]⟩,0,0,[],[]⟩,0,0⟩:dI)
 |17=>(⟨[],0⟩:gK)
 |18=>(⟨⟨⟨0,0,[]⟩,0,0,[],[]⟩,0⟩:aY)
 |19=>(⟨[],false⟩:gL)
 |20=>(⟨⟨[],0,0,[]⟩,false⟩:gM)
 |21=>(⟨0,0⟩:bT)
 |_+22=>()
def RN:Nat→List Ty
 |0=>[.str,.int .i64,.int .i64,.int .i64,.slice .str]
 |1=>[.int .i64,.int .i64,.slice (.st 0)]
 |2=>[.str,.int .i64,.int .i64,.str]
 |3=>[.int .i64,.int .i64,.int .i64,.int .i64,.int .i64,.int .i64,.int .i64,.slice (.int .i64),.slice (.st 2)]
 |4=>[.int .i64,.int .i64,.int .i64,.int .i64,.int .i64,.int .i64,.int .i64,.slice (.int .i64),.slice (.st 2),.int .i64]
 |5=>[.int .i64,.int .i64,.slice (.st 0),.int .i64,.int .i64,.slice (.int .i64),.slice (.st 4)]
 |6=>[.int .u8,.int .u8,.int .u8,.int .u8,.int .u8,.int .u8,.int .u8,.int .u8,.int .u8,.int .u8,.int .u8,.int .u8,.int .u8,.int .u8,.int .u8,.int .u8]
 |7=>[.int .i64,.int .i64,.int .i64,.int .i64,.int .u8,.int .u8,.int .u8,.int .u8,.int .u8,.int .u8,.int .u8,.int .u8,.int .u8,.int .u8,.int .u8,.int .u8,.int .u8,.int .u8,.int .u8,.int .u8]
 |8=>[.int .i64,.str,.int .i64,.int .i64,.str,.slice (.st 8)]
 |9=>[.str,.int .i64,.str,.int .i64,.int .i64,.str,.slice (.st 8),.int .i64]
 |10=>[.int .i64,.int .i64,.slice (.st 0),.int .i64,.int .i64,.slice (.int .i64),.slice (.st 4),.slice (.st 7),.int .i64]
 |11=>[.int .i64,.int .i64]
 |12=>[.slice (.st 6),.int .i64]
 |13=>[.int .i64,.int .i64,.int .i64,.int .i64,.int .i64,.int .i64,.int .i64,.slice (.int .i64),.slice (.st 2),.int .u8,.int .u8,.int .u8,.int .u8,.int .u8,.int .u8,.int .u8,.int .u8,.int .u8,.int .u8,.int .u8,.int .u8,.int .u8,.int .u8,.int .u8,.int .u8]
 |14=>[.slice (.int .i64),.int .i64,.int .i64,.int .i64,.str,.int .i64,.int .i64,.str,.slice (.st 8),.int .i64,.int .i64,.int .i64]
 |15=>[.int .i64,.int .i64,.int .i64]
 |16=>[.int .i64,.int .i64,.slice (.st 0),.int .i64,.int .i64,.slice (.int .i64),.slice (.st 4),.int .i64,.int .i64]
 |17=>[.slice (.st 6),.int .i64]
 |18=>[.int .i64,.int .i64,.slice (.st 0),.int .i64,.int .i64,.slice (.int .i64),.slice (.st 4),.int .i64]
 |19=>[.slice (.st 6),.bool]
 |20=>[.str,.int .i64,.int .i64,.str,.bool]
 |21=>[.int .i64,.int .i64]
 |_+22=>[]
def rto:(n:Nat)→lH rT (RN n)→rT n
 |0=>fun p=>(⟨p.1,p.2.1,p.2.2.1,p.2.2.2.1,p.2.2.2.2⟩:Def)
 |1=>fun p=>(⟨p.1,p.2.1,p.2.2⟩:aD)
 |2=>fun p=>(⟨p.1,p.2.1,p.2.2.1,p.2.2.2⟩:Attr)
 |3=>fun p=>(⟨p.1,p.2.1,p.2.2.1,p.2.2.2.1,p.2.2.2.2.1,p.2.2.2.2.2.1,p.2.2.2.2.2.2.1,p.2.2.2.2.2.2.2.1,p.2.2.2.2.2.2.2.2⟩:Entry)
 |4=>fun p=>(⟨⟨p.1,p.2.1,p.2.2.1,p.2.2.2.1,p.2.2.2.2.1,p.2.2.2.2.2.1,p.2.2.2.2.2.2.1,p.2.2.2.2.2.2.2.1,p.2.2.2.2.2.2.2.2.1⟩,p.2.2.2.2.2.2.2.2.2⟩:Row)
 |5=>fun p=>(⟨⟨p.1,p.2.1,p.2.2.1⟩,p.2.2.2.1,p.2.2.2.2.1,p.2.2.2.2.2.1,p.2.2.2.2.2.2⟩:Book)
 |6=>fun p=>(⟨p.1,p.2.1,p.2.2.1,p.2.2.2.1,p.2.2.2.2.1,p.2.2.2.2.2.1,p.2.2.2.2.2.2.1,p.2.2.2.2.2.2.2.1,p.2.2.2.2.2.2.2.2.1,p.2.2.2.2.2.2.2.2.2.1,p.2.2.2.2.2.2.2.2.2.2.1,p.2.2.2.2.2.2.2.2.2.2.2.1,p.2.2.2.2.2.2.2.2.2.2.2.2.1,p.2.2.2.2.2.2.2.2.2.2.2.2.2.1,p.2.2.2.2.2.2.2.2.2.2.2.2.2.2.1,p.2.2.2.2.2.2.2.2.2.2.2.2.2.2.2⟩:dK)
 |7=>fun p=>(⟨p.1,p.2.1,p.2.2.1,p.2.2.2.1,⟨p.2.2.2.2.1,p.2.2.2.2.2.1,p.2.2.2.2.2.2.1,p.2.2.2.2.2.2.2.1,p.2.2.2.2.2.2.2.2.1,p.2.2.2.2.2.2.2.2.2.1,p.2.2.2.2.2.2.2.2.2.2.1,p.2.2.2.2.2.2.2.2.2.2.2.1,p.2.2.2.2.2.2.2.2.2.2.2.2.1,p.2.2.2.2.2.2.2.2.2.2.2.2.2.1,p.2.2.2.2.2.2.2.2.2.2.2.2.2.2.1,p.2.2.2.2.2.2.2.2.2.2.2.2.2.2.2.1,p.2.2.2.2.2.2.2.2.2.2.2.2.2.2.2.2.1,p.2.2.2.2.2.2.2.2.2.2.2.2.2.2.2.2.2.1,p.2.2.2.2.2.2.2.2.2.2.2.2.2.2.2.2.2.2.1,p.2.2.2.2.2.2.2.2.2.2.2.2.2.2.2.2.2.2.2⟩⟩:Gone)
 |8=>fun p=>(⟨p.1,p.2.1,p.2.2.1,p.2.2.2.1,p.2.2.2.2.1,p.2.2.2.2.2⟩:Pred)
 |9=>fun p=>(⟨p.1,⟨p.2.1,p.2.2.1,p.2.2.2.1,p.2.2.2.2.1,p.2.2.2.2.2.1,p.2.2.2.2.2.2.1⟩,p.2.2.2.2.2.2.2⟩:Law)
 |10=>fun p=>(⟨⟨⟨p.1,p.2.1,p.2.2.1⟩,p.2.2.2.1,p.2.2.2.2.1,p.2.2.2.2.2.1,p.2.2.2.2.2.2.1⟩,p.2.2.2.2.2.2.2.1,p.2.2.2.2.2.2.2.2⟩:gH)
 |11=>fun p=>(⟨p.1,p.2⟩:Snapshot)
 |12=>fun p=>(⟨p.1,p.2⟩:gI)
 |13=>fun p=>(⟨p.1,p.2.1,p.2.2.1,p.2.2.2.1,p.2.2.2.2.1,p.2.2.2.2.2.1,p.2.2.2.2.2.2.1,p.2.2.2.2.2.2.2.1,p.2.2.2.2.2.2.2.2.1,⟨p.2.2.2.2.2.2.2.2.2.1,p.2.2.2.2.2.2.2.2.2.2.1,p.2.2.2.2.2.2.2.2.2.2.2.1,p.2.2.2.2.2.2.2.2.2.2.2.2.1,p.2.2.2.2.2.2.2.2.2.2.2.2.2.1,p.2.2.2.2.2.2.2.2.2.2.2.2.2.2.1,p.2.2.2.2.2.2.2.2.2.2.2.2.2.2.2.1,p.2.2.2.2.2.2.2.2.2.2.2.2.2.2.2.2.1,p.2.2.2.2.2.2.2.2.2.2.2.2.2.2.2.2.2.1,p.2.2.2.2.2.2.2.2.2.2.2.2.2.2.2.2.2.2.1,p.2.2.2.2.2.2.2.2.2.2.2.2.2.2.2.2.2.2.2.1,p.2.2.2.2.2.2.2.2.2.2.2.2.2.2.2.2.2.2.2.2.1,p.2.2.2.2.2.2.2.2.2.2.2.2.2.2.2.2.2.2.2.2.2.1,p.2.2.2.2.2.2.2.2.2.2.2.2.2.2.2.2.2.2.2.2.2.2.1,p.2.2.2.2.2.2.2.2.2.2.2.2.2.2.2.2.2.2.2.2.2.2.2.1,p.2.2.2.2.2.2.2.2.2.2.2.2.2.2.2.2.2.2.2.2.2.2.2.2⟩⟩:Event)
 |14=>fun p=>(⟨p.1,p.2.1,p.2.2.1,⟨p.2.2.2.1,p.2.2.2.2.1,p.2.2.2.2.2.1,p.2.2.2.2.2.2.1,p.2.2.2.2.2.2.2.1,p.2.2.2.2.2.2.2.2.1⟩,⟨p.2.2.2.2.2.2.2.2.2.1,p.2.2.2.2.2.2.2.2.2.2.1⟩,p.2.2.2.2.2.2.2.2.2.2.2⟩:Query)
 |15=>fun p=>(⟨p.1,p.2.1,p.2.2⟩:gJ)
 |16=>fun p=>(⟨⟨⟨p.1,p.2.1,p.2.2.1⟩,p.2.2.2.1,p.2.2.2.2.1,p.2.2.2.2.2.1,p.2.2.2.2.2.2.1⟩,p.2.2.2.2.2.2.2.1,p.2.2.2.2.2.2.2.2⟩:dI)
 |17=>fun p=>(⟨p.1,p.2⟩:gK)
 |18=>fun p=>(⟨⟨⟨p.1,p.2.1,p.2.2.1⟩,p.2.2.2.1,p.2.2.2.2.1,p.2.2.2.2.2.1,p.2.2.2.2.2.2.1⟩,p.2.2.2.2.2.2.2⟩:aY)
 |19=>fun p=>(⟨p.1,p.2⟩:gL)
 |20=>fun p=>(⟨⟨p.1,p.2.1,p.2.2.1,p.2.2.2.1⟩,p.2.2.2.2⟩:gM)
 |21=>fun p=>(⟨p.1,p.2⟩:bT)
 |_+22=>fun _=>()
def rof:(n:Nat)→rT n→lH rT (RN n)
 |0=>fun (x:Def)=>(x.Name,x.Kind,x.Lo,x.Hi,x.Words)
 |1=>fun (x:aD)=>(x.fF,x.gB,x.Defs)
 |2=>fun (x:Attr)=>(x.Name,x.Kind,x.N,x.S)
 |3=>fun (x:Entry)=>(x.ID,x.eG,x.eU,x.gQ,x.From,x.To,x.fM,x.Vec,x.aM)
 |4=>fun (x:Row)=>(x.Entry.ID,x.Entry.eG,x.Entry.eU,x.Entry.gQ,x.Entry.From,x.Entry.To,x.Entry.fM,x.Entry.Vec,x.Entry.aM,x.cO)
 |5=>fun (x:Book)=>(x.aD.fF,x.aD.gB,x.aD.Defs,x.aH,x.Day,x.bV,x.Rows)
 |6=>fun (x:dK)=>(x.b0,x.b1,x.b2,x.b3,x.b4,x.b5,x.b6,x.b7,x.b8,x.b9,x.b10,x.b11,x.b12,x.b13,x.b14,x.b15)
 |7=>fun (x:Gone)=>(x.ID,x.eG,x.fM,x.cO,x.Leaf.b0,x.Leaf.b1,x.Leaf.b2,x.Leaf.b3,x.Leaf.b4,x.Leaf.b5,x.Leaf.b6,x.Leaf.b7,x.Leaf.b8,x.Leaf.b9,x.Leaf.b10,x.Leaf.b11,x.Leaf.b12,x.Leaf.b13,x.Leaf.b14,x.Leaf.b15)
 |8=>fun (x:Pred)=>(x.Op,x.Name,x.N,x.M,x.S,x.bS)
 |9=>fun (x:Law)=>(x.Name,x.Where.Op,x.Where.Name,x.Where.N,x.Where.M,x.Where.S,x.Where.bS,x.bV)
 |10=>fun (x:gH)=>(x.B.aD.fF,x.B.aD.gB,x.B.aD.Defs,x.B.aH,x.B.Day,x.B.bV,x.B.Rows,x.L,x.E)
 |11=>fun (x:Snapshot)=>(x.Day,x.aH)
 |12=>fun (x:gI)=>(x.L,x.E)
 |13=>fun (x:Event)=>(x.Kind,x.aH,x.Day,x.ID,x.eU,x.Until,x.From,x.Vec,x.aM,x.bg.b0,x.bg.b1,x.bg.b2,x.bg.b3,x.bg.b4,x.bg.b5,x.bg.b6,x.bg.b7,x.bg.b8,x.bg.b9,x.bg.b10,x.bg.b11,x.bg.b12,x.bg.b13,x.bg.b14,x.bg.b15)
 |14=>fun (x:Query)=>(x.Vec,x.K,x.Within,x.Where.Op,x.Where.Name,x.Where.N,x.Where.M,x.Where.S,x.Where.bS,x.At.Day,x.At.aH,x.Budget)
 |15=>fun (x:gJ)=>(x.ID,x.eG,x.Key)
 |16=>fun (x:dI)=>(x.B.aD.fF,x.B.aD.gB,x.B.aD.Defs,x.B.aH,x.B.Day,x.B.bV,x.B.Rows,x.N,x.E)
 |17=>fun (x:gK)=>(x.L,x.E)
 |18=>fun (x:aY)=>(x.B.aD.fF,x.B.aD.gB,x.B.aD.Defs,x.B.aH,x.B.Day,x.B.bV,x.B.Rows,x.E)
 |19=>fun (x:gL)=>(x.l,x.short)
 |20=>fun (x:gM)=>(x.A.Name,x.A.Kind,x.A.N,x.A.S,x.Is)
 |21=>fun (x:bT)=>(x.from_,x.to)
 |_+22=>fun _=>()
def YN:(n:Nat)→rT n→V
 |0=>fun (x:Def)=>Def.v x
 |1=>fun (x:aD)=>aD.v x
 |2=>fun (x:Attr)=>Attr.v x
 |3=>fun (x:Entry)=>Entry.v x
 |4=>fun (x:Row)=>Row.v x
 |5=>fun (x:Book)=>Book.v x
 |6=>fun (x:dK)=>dK.v x
 |7=>fun (x:Gone)=>Gone.v x
 |8=>fun (x:Pred)=>Pred.v x
 |9=>fun (x:Law)=>Law.v x
 |10=>fun (x:gH)=>gH.v x
 |11=>fun (x:Snapshot)=>Snapshot.v x
 |12=>fun (x:gI)=>gI.v x
 |13=>fun (x:Event)=>Event.v x
 |14=>fun (x:Query)=>Query.v x
 |15=>fun (x:gJ)=>gJ.v x
 |16=>fun (x:dI)=>dI.v x
 |17=>fun (x:gK)=>gK.v x
 |18=>fun (x:aY)=>aY.v x
 |19=>fun (x:gL)=>gL.v x
 |20=>fun (x:gM)=>gM.v x
 |21=>fun (x:bT)=>bT.v x
 |_+22=>fun _=>.agg []
def rty:List (Nat×Ty):=[(2,.int .i64),(3,.int .i64),(4,.bool),(5,.int .u8),(6,.int .u8),(9,.str),(10,.str),(11,.str),(12,.int .u64),(21,.int .i32),(22,.slice (.st 0)),(24,.st 1),(25,.slice (.st 9)),(26,.slice (.st 13)),(27,.slice (.int .i64)),(28,.slice (.st 4)),(30,.st 5),(35,.int .i64),(39,.slice (.st 7)),(44,.st 6),(46,.st 7),(47,.slice (.st 8)),(49,.st 8),(51,.st 9),(55,.st 10),(61,.st 11),(63,.slice (.st 2)),(65,.st 3),(67,.st 4),(70,.slice (.st 6)),(74,.st 12),(80,.st 13),(83,.slice (.st 3)),(88,.st 14),(92,.slice (.st 15)),(96,.st 15),(102,.st 16),(119,.slice .str),(121,.st 0),(124,.slice (.int .u8)),(129,.st 17),(132,.slice (.st 2)),(153,.st 18),(181,.st 19),(187,.st 2),(216,.st 20),(218,.int .u32),(221,.int .u64),(231,.int .u64),(254,.slice (.st 21)),(256,.st 21),(261,.slice (.slice (.int .i64))),(263,.slice (.slice (.int .u8))),(280,.slice (.int .u32)),(283,.int .i64),(292,.int .u64),(307,.int .u8),(308,.int .u8),(311,.int .i32),(312,.int .i32)]
def Md:Vec 64:=⟨[1116352408,1899447441,3049323471,3921009573,961987163,1508970993,2453635748,2870763221,3624381080,310598401,607225278,1426881987,1925078388,2162078206,2614888103,3248222580,3835390401,4022224774,264347078,604807628,770255983,1249150122,1555081692,1996064986,2554220882,2821834349,2952996808,3210313671,3336571891,3584528711,113926993,338241895,666307205,773529912,1294757372,1396182291,1695183700,1986661051,2177026350,2456956037,2730485921,2820302411,3259730800,3345764771,3516065817,3600352804,4094571909,275423344,430227734,506948616,659060556,883997877,958139571,1322822218,1537002063,1747873779,1955562222,2024104815,2227730452,2361852424,2428436474,2756734187,3204031479,3329325298],rfl⟩
def glS (g:Nat):Option ((k:IntKind)×(n:Nat)×Vec n):=bif Nat.ble g 1 then some ⟨.u32,64,Md⟩ else none
def R:iM:={T:=rT,d:=rd,lf:=RN,to:=rto,of:=rof,enc:=YN,ty:=fun t=>look rty t,gl:=glS}
theorem bF:mX R where
 FX:=fun n p=>by
  match n,p with
  |0,p=>exact rfl
  |1,p=>exact rfl
  |2,p=>exact rfl
  |3,p=>exact rfl
  |4,p=>exact rfl
  |5,p=>exact rfl
  |6,p=>exact rfl
  |7,p=>exact rfl
  |8,p=>exact rfl
  |9,p=>exact rfl
  |10,p=>exact rfl
  |11,p=>exact rfl
  |12,p=>exact rfl
  |13,p=>exact rfl
  |14,p=>exact rfl
  |15,p=>exact rfl
  |16,p=>exact rfl
  |17,p=>exact rfl
  |18,p=>exact rfl
  |19,p=>exact rfl
  |20,p=>exact rfl
  |21,p=>exact rfl
  |_+22,p=>exact rfl
 enc:=fun n x=>by
  match n,x with
  |0,x=>exact rfl
  |1,x=>exact rfl
  |2,x=>exact rfl
  |3,x=>exact rfl
  |4,x=>exact rfl
  |5,x=>exact rfl
  |6,x=>exact rfl
  |7,x=>exact rfl
  |8,x=>exact(by show Pred.v x=_;unfold Pred.v Pred.c;simp only[Pred.uZ];rfl)
  |9,x=>exact(by show Law.v x=_;unfold Law.v Law.c;simp only[Pred.uZ];rfl)
  |10,x=>exact rfl
  |11,x=>exact rfl
  |12,x=>exact rfl
  |13,x=>exact rfl
  |14,x=>exact(by show Query.v x=_;unfold Query.v Query.c;simp only[Pred.uZ];rfl)
  |15,x=>exact rfl
  |16,x=>exact rfl
  |17,x=>exact rfl
  |18,x=>exact rfl
  |19,x=>exact rfl
  |20,x=>exact rfl
  |21,x=>exact rfl
  |_+22,x=>exact rfl
 leaf:=fun n=>by
  match n with
  |0=>exact rfl
  |1=>exact rfl
  |2=>exact rfl
  |3=>exact rfl
  |4=>exact rfl
  |5=>exact rfl
  |6=>exact rfl
  |7=>exact rfl
  |8=>exact rfl
  |9=>exact rfl
  |10=>exact rfl
  |11=>exact rfl
  |12=>exact rfl
  |13=>exact rfl
  |14=>exact rfl
  |15=>exact rfl
  |16=>exact rfl
  |17=>exact rfl
  |18=>exact rfl
  |19=>exact rfl
  |20=>exact rfl
  |21=>exact rfl
  |_+22=>exact rfl
 pc:=fun n x=>by
  match n,x with
  |0,x=>exact Def.pc x
  |1,x=>exact aD.pc x
  |2,x=>exact Attr.pc x
  |3,x=>exact Entry.pc x
  |4,x=>exact Row.pc x
  |5,x=>exact Book.pc x
  |6,x=>exact dK.pc x
  |7,x=>exact Gone.pc x
  |8,x=>exact Pred.pc x
  |9,x=>exact Law.pc x
  |10,x=>exact gH.pc x
  |11,x=>exact Snapshot.pc x
  |12,x=>exact gI.pc x
  |13,x=>exact Event.pc x
  |14,x=>exact Query.pc x
  |15,x=>exact gJ.pc x
  |16,x=>exact dI.pc x
  |17,x=>exact gK.pc x
  |18,x=>exact aY.pc x
  |19,x=>exact gL.pc x
  |20,x=>exact gM.pc x
  |21,x=>exact bT.pc x
  |_+22,x=>exact(by simp[R,YN,aC,aX])
end Sh
end
section
namespace Aq
open Go
def nW (k:IntKind) (x y:Int):Int:=k.wrap (BitVec.ofInt k.bits x&&& BitVec.ofInt k.bits y).toNat
def Gl (k:IntKind) (x y:Int):Int:=k.wrap (BitVec.ofInt k.bits x|||BitVec.ofInt k.bits y).toNat
def mo (k:IntKind) (x y:Int):Int:=k.wrap (BitVec.ofInt k.bits x^^^BitVec.ofInt k.bits y).toNat
def Me (k:IntKind) (x y:Int):Int:=k.wrap (x*2^min y.toNat k.bits)
def oN (k:IntKind) (x y:Int):Int:=x.fdiv (2^min y.toNat k.bits)
section
variable {R:iM} {E:Env}
def bn (f:Nat) (r:FR R) (F:Nat→List (FR R)):Nat→List (FR R):=fun g=>bif Nat.beq g f then r::F g else F g
theorem bC {f:Nat} {r:FR R} {F:Nat→List (FR R)} (hF:aS E F) (h:∀p x,r.F p=some x→Pure E f (au R r.args p) (aV (au R r.res x))) (ho:r.own=false:=by rfl):aS E (bn f r F):=by
 intro g q hq p x hx
 unfold bn at hq
 cases hb:Nat.beq g f
 ·rw[hb] at hq;exact hF g q hq p x hx
 ·rw[hb,cond_true] at hq
  rcases List.mem_cons.1 hq with rfl|hq
  ·rw[dY hb];exact⟨fun _=>h p x hx,fun e=>by rw[ho] at e;cases e⟩
  ·exact hF g q hq p x hx
def YO:Nat→List (FR R):=fun _=>[]
def YP:Nat→List (FI R):=fun _=>[]
theorem aiK:vQ E (YP (R:=R)):=fun _ _ h=>by cases h
def uQ (g:Nat) (i:FI R) (I:Nat→List (FI R)):Nat→List (FI R):=fun f=>bif Nat.beq f g then i::I f else I f
theorem aiL {g:Nat} {i:FI R} {I:Nat→List (FI R)} (hI:vQ E I) (h:E.imp g=true∧∀pa pb xs,i.F pa pb=some xs→Gi E g (au R i.a pa) (au R i.b pb) (xs.map (au R i.el))):vQ E (uQ g i I):=by
 intro f q hq
 unfold uQ at hq
 cases hb:Nat.beq f g
 ·rw[hb] at hq;exact hI f q hq
 ·rw[hb,cond_true] at hq
  rcases List.mem_cons.1 hq with rfl|hq
  ·rw[dY hb];exact h
  ·exact hI f q hq
theorem aiM:aS E (YO (R:=R)):=fun _ _ h=>by cases h
theorem YQ {f:Nat} {k:Sk} {args:List Sk} {τ:Ty} {G:aj R.T (.dG::k::args)→Option (List (Den R.T τ))} {d:List (Den R.T τ)} {F:Nat→List (FR R)} (hF:aS E F)
 (h:∀u p x,G (u,p)=some x→lZ E f (.ak .nil []::au R (k::args) p) (cZ R τ) (x.map (aF R τ))) (hn:E.tJ f=true:=by rfl):aS E (bn f ⟨.dG::k::args,[.d (.slice τ)],G,d,true⟩ F):=by
 intro g q hq p x hx
 unfold bn at hq
 cases hb:Nat.beq g f
 ·rw[hb] at hq;exact hF g q hq p x hx
 ·rw[hb,cond_true] at hq
  rcases List.mem_cons.1 hq with rfl|hq
  ·rw[dY hb]
   refine⟨fun hc=>(by cases hc),fun _ τ' e l hl=> ?_⟩
   cases e
   have hl':x=l:=hl
   subst hl'
   exact⟨fun hc=>(by cases hc),fun _=>⟨hn,h p.1 p.2 x hx⟩⟩
  ·exact hF g q hq p x hx
theorem RP {f:Nat} {args:List Sk} {τ:Ty} {G:aj R.T args→Option (List (Den R.T τ))} {d:List (Den R.T τ)} {F:Nat→List (FR R)} (hF:aS E F)
 (h:∀p x,G p=some x→Pure E f (au R args p) (.ak .sh (x.map (aF R τ)))∧lZ E f (au R args p) (cZ R τ) (x.map (aF R τ))) (hc:iN args=true:=by rfl) (hn:E.tJ f=false:=by rfl):aS E (bn f ⟨args,[.d (.slice τ)],G,d,true⟩ F):=by
 intro g q hq p x hx
 unfold bn at hq
 cases hb:Nat.beq g f
 ·rw[hb] at hq;exact hF g q hq p x hx
 ·rw[hb,cond_true] at hq
  rcases List.mem_cons.1 hq with rfl|hq
  ·rw[dY hb]
   obtain⟨h1,h2⟩:=h p x hx
   refine⟨fun _=>h1,fun _ τ' e l hl=> ?_⟩
   cases e
   have hl':x=l:=hl
   subst hl'
   exact⟨fun _=>⟨hn,h2⟩,fun e=>(by rw[hc] at e;cases e)⟩
  ·exact hF g q hq p x hx
end
def YR:(k:iZ)→zM k
 |.i _=>(0:Int)
 |.a _ n=>Vec.rep n 0
def YS:(l:List iZ)→xg l
 | []=>()
 | [k]=>YR k
 |k::h::l=>(YR k,YS (h::l))
section
variable (R:iM)
mutual
def YT:(k:Sk)→oG R.T k
 |.d t=>zO R t
 |.l _ t=>([]:List (Den R.T t))
 |.agg l=>aT l
 |.ref _ _=>()
 |.aK l _=>aT l
 |.cK _=>()
 |.dx k e=>([]:List (Den R.T k×Den R.T e))
 |.fn _ a b=>(aT a,aT b)
 |.dG=>()
 |.vw _ _=>()
 |.sg l=>YS l
 |.undef=>()
def aT:(l:List Sk)→aj R.T l
 | []=>()
 | [k]=>YT k
 |k::h::l=>(YT k,aT (h::l))
end
end
end Aq
end
section
open Go Go.Proofs Aq
namespace Sh
def uG:List V:=[.int .u32 1116352408,.int .u32 1899447441,.int .u32 3049323471,.int .u32 3921009573,.int .u32 961987163,.int .u32 1508970993,.int .u32 2453635748,.int .u32 2870763221,.int .u32 3624381080,.int .u32 310598401,.int .u32 607225278,.int .u32 1426881987,.int .u32 1925078388,.int .u32 2162078206,.int .u32 2614888103,.int .u32 3248222580,.int .u32 3835390401,.int .u32 4022224774,.int .u32 264347078,.int .u32 604807628,.int .u32 770255983,.int .u32 1249150122,.int .u32 1555081692,.int .u32 1996064986,.int .u32 2554220882,.int .u32 2821834349,.int .u32 2952996808,.int .u32 3210313671,.int .u32 3336571891,.int .u32 3584528711,.int .u32 113926993,.int .u32 338241895,.int .u32 666307205,.int .u32 773529912,.int .u32 1294757372,.int .u32 1396182291,.int .u32 1695183700,.int .u32 1986661051,.int .u32 2177026350,.int .u32 2456956037,.int .u32 2730485921,.int .u32 2820302411,.int .u32 3259730800,.int .u32 3345764771,.int .u32 3516065817,.int .u32 3600352804,.int .u32 4094571909,.int .u32 275423344,.int .u32 430227734,.int .u32 506948616,.int .u32 659060556,.int .u32 883997877,.int .u32 958139571,.int .u32 1322822218,.int .u32 1537002063,.int .u32 1747873779,.int .u32 1955562222,.int .u32 2024104815,.int .u32 2227730452,.int .u32 2361852424,.int .u32 2428436474,.int .u32 2756734187,.int .u32 3204031479,.int .u32 3329325298]
def YU (g:Nat):Option (List V):=bif Nat.beq g 1 then some uG else none
end Sh
end
section
open Go Go.Proofs Aq
namespace Sh
set_option maxRecDepth 100000
set_option linter.unusedSimpArgs false
set_option linter.unusedVariables false
def YV:List V→Option V
 | []=>some (.bool true)
 |_::_=>none
def aiN (g d:Nat):Bool:=bif Nat.beq g 200 then aZ d [24] else bif Nat.beq g 199 then aZ d [24] else bif Nat.beq g 161 then aZ d [32] else bif Nat.beq g 106 then aZ d [5,7] else bif Nat.beq g 105 then aZ d [5,10] else false
noncomputable def E:Env:={P:=Tryz.prog,glob:=YU,imp:=fun f=>Nat.beq f 152||Nat.beq f 153,om:=fun f=>Nat.beq f 146||Nat.beq f 195||Nat.beq f 199||Nat.beq f 200,kJ:=fun f=>bif Nat.beq f 11 then some YV else none,own:=aiN,tJ:=fun f=>Nat.beq f 199||Nat.beq f 200}
mutual
def pre:Pred→List Pred
 | ⟨op,name,n,m,s,subs⟩=>⟨op,name,n,m,s,subs⟩::jZ subs
def jZ:List Pred→List Pred
 | []=>[]
 |p::ps=>pre p++jZ ps
end
theorem pre_eq (p:Pred):pre p=p::jZ p.bS:=by cases p;simp[pre]
def yl (l:List Pred):List (List V):=l.map fun q=>[Pred.v q]
abbrev yv (l:Nat):V:=.fn (.yield l) [] []
def RQ (d dd l:Nat) (σ:ah) (J:List (List V)→ah→Prop) (D:ah→Prop) (L:List (List V)) (v:V) (σ':ah):Prop:=
 σ.next≤σ'.next∧(∀a o,d<a→a<dd→σ'.obj (a,o)=σ.obj (a,o))∧(∀s,s<σ.next→σ'.loops s=σ.loops s∨s=l)∧((v= .bool true∧J L σ')∨(v= .bool false∧D σ'))
theorem RQ.trans {d dd l:Nat} {σ σ1:ah} {J:List (List V)→ah→Prop} {D:ah→Prop} {L:List (List V)} {v:V} {σ':ah} (hn:σ.next≤σ1.next) (ho:∀a o,d<a→a<dd→σ1.obj (a,o)=σ.obj (a,o)) (hl:∀s,s<σ.next→σ1.loops s=σ.loops s∨s=l)
 (h:RQ d dd l σ1 J D L v σ'):RQ d dd l σ J D L v σ':=by
 obtain⟨h1,h2,h3,h4⟩:=h
 refine⟨Nat.le_trans hn h1,fun a o ha hb=>(h2 a o ha hb).trans (ho a o ha hb),fun s hs=> ?_,h4⟩
 rcases h3 s (Nat.lt_of_lt_of_le hs hn) with e|e
 ·rcases hl s hs with e'|e'
  ·exact .inl (e.trans e')
  ·exact .inr e'
 ·exact .inr e
theorem Mf {a o s b p:Nat} {σ:ah} {x:fV} (h:b≠a):(σ.setObj (a,o) s x).obj (b,p)=σ.obj (b,p):=by
 show upd σ.obj (a,o) _ (b,p)=_
 unfold upd
 rw[if_neg]
 intro e
 exact h (congrArg Prod.fst e)
theorem aiO {σ σ':ah} {loc:Aq.Loc} {s:Nat} (h:σ'.obj loc=σ.obj loc):σ'.cu loc s=σ.cu loc s:=by
 unfold ah.cu;rw[h]
end Sh
end
section
open Go Go.Proofs Aq
namespace Sh
set_option maxRecDepth 100000
set_option linter.unusedSimpArgs false
set_option linter.unusedVariables false
def Pg (d dd l:Nat) (σ σ':ah):Prop:=σ.next≤σ'.next∧(∀a o,d<a→a<dd→σ'.obj (a,o)=σ.obj (a,o))∧(∀s,s<σ.next→σ'.loops s=σ.loops s∨s=l)
theorem Pg.trans {d dd l:Nat} {σ σ1 σ2:ah} (h:Pg d dd l σ σ1) (g:Pg d dd l σ1 σ2):Pg d dd l σ σ2:=by
 refine⟨Nat.le_trans h.1 g.1,fun a o ha hb=>(g.2.1 a o ha hb).trans (h.2.1 a o ha hb),fun s hs=> ?_⟩
 rcases g.2.2 s (Nat.lt_of_lt_of_le hs h.1) with e|e
 ·rcases h.2.2 s hs with e'|e'
  ·exact .inl (e.trans e')
  ·exact .inr e'
 ·exact .inr e
theorem Pg.refl {d dd l:Nat} {σ:ah}:Pg d dd l σ σ:=⟨Nat.le_refl _,fun _ _ _ _=>rfl,fun _ _=>.inl rfl⟩
theorem Pg.bump {d dd l k:Nat} {σ:ah}:Pg d dd l σ (σ.bump k):=⟨Nat.le_add_right _ _,fun _ _ _ _=>rfl,fun _ _=>.inl rfl⟩
theorem Pg.set {d dd l o s:Nat} {σ:ah} {x:fV}:Pg d dd l σ (σ.setObj (dd,o) s x):=⟨Nat.le_refl _,fun a o' _ hb=>Mf (by omega),fun _ _=>.inl rfl⟩
theorem YW:∀l:List Pred,l.length≤(jZ l).length
 | []=>by simp[jZ]
 |p::l=>by have:=YW l;rw[jZ,pre_eq];simp;omega
theorem YX {q:Pred}:∀{l:List Pred},q∈l→(pre q).length≤(jZ l).length
 |p::l,h=>by
  rw[jZ,List.length_append]
  rcases List.mem_cons.1 h with rfl|h
  ·omega
  ·have:=YX h;omega
theorem aiP {d l:Nat} {J:List (List V)→ah→Prop} {D:ah→Prop} (hJ:∀xs σ σ',l<σ.next→J xs σ→Shift d σ σ'→J xs σ') (hD:∀σ σ',l<σ.next→D σ→Shift d σ σ'→D σ')
 (hr:∀x xs σ,l<σ.next→J (x::xs) σ→∃c σ',uF E l x σ c σ'∧σ.next≤σ'.next∧(∀a o,d<a→σ'.obj (a,o)=σ.obj (a,o))∧(∀s,s<σ.next→σ'.loops s=σ.loops s∨s=l)∧(c=true→J xs σ')∧(c=false→D σ')):
 ∀(g:Nat) (p:Pred),sizeOf p<g→(pre p).length<2^62→∀(dd:Nat) (σ:ah) (L:List (List V)),d<dd→l<σ.next→J (yl (pre p)++L) σ→kM E 153 [Pred.v p,yv l] dd σ (fun v σ'=>Pg d dd l σ σ'∧((v= .bool true∧J L σ')∨(v= .bool false∧D σ'))):=by
 intro g
 induction g with
 |zero=>intro p hp;omega
 |succ g ih=>
 intro p hp hsz dd σ0 L hd hl hj
 have aB:∀{σ:ah} {x:fV} {k o s:Nat},Pg d dd l σ ((σ.bump k).setObj (dd,o) s x):=Pg.trans .bump .set
 have part:∀(fr:Fr) (σ:ah) (s:Nat) (q:Pred) (xs:List (List V)) (Q:Ex→Fr→ah→Prop),sizeOf q<g→(pre q).length<2^62→fr.d=dd→fr.tm 1=yv l→fr.tm 6= .ref (dd,6) s 0→σ.cu (dd,6) s=some q.c→l<σ.next→Pg d dd l σ0 σ→J (yl (pre q)++xs) σ→
  (∀fr' σ',(∀i,i<18→6<i→fr'.tm i=fr.tm i)→fr'.d=dd→fr'.tm 1=yv l→l<σ'.next→Pg d dd l σ0 σ'→J xs σ'→Q .normal fr' σ')→(∀fr' σ',fr'.tm 4= .bool false→D σ'→Pg d dd l σ0 σ'→Q .ret fr' σ')→
  CW E ((aQ Tryz.f153.body [1,1,0,1,0,0,1,1,0,0,1]).getD .skip) fr σ Q:=by
  intro fr σ s q xs Q hq RU h1 h2 h3 h4 hl hp hj RV RX
  have hP:E.P=Tryz.prog:=rfl
  refine CW.seq (CW.region ?_)
  refine OW.o1 (by rfl) (fun S=>by simp only[go_sem,Nat.reduceBEq,Nat.reduceAdd, *];with_reducible exact Is.rfl) ?_
  refine OW.o1 (by rfl) (fun S=>by simp only[go_sem,Nat.reduceBEq,Nat.reduceAdd, *];with_reducible exact Is.rfl) ?_
  refine OW.PY (g:=153) (a:=[]) (b:=[]) (by rfl) rfl rfl rfl rfl ?_
  rw[tX,tX,h1]
  change kM E 153 [Pred.v q,yv l] (dd+1) _ _
  obtain⟨n,v,σ1,hn,hpg,hv⟩:=ih q hq RU (dd+1) (σ.bump 4) xs (by omega) (Nat.lt_of_lt_of_le hl (Nat.le_add_right _ _)) (hJ _ _ _ hl hj ⟨Nat.le_add_right _ _,fun _ _=>rfl,fun _ _=>rfl,fun _ _ _=>rfl⟩)
  have YZ:Pg d dd l σ0 σ1:=hp.trans (Pg.trans .bump ⟨hpg.1,fun a o ha hb=>hpg.2.1 a o ha (by omega),hpg.2.2⟩)
  have hl':l<σ1.next:=Nat.lt_of_lt_of_le hl (Nat.le_trans (Nat.le_add_right _ 4) hpg.1)
  refine⟨n,v,σ1,hn, ?_⟩
  rcases hv with ⟨rfl,hj'⟩| ⟨rfl,hd'⟩
  ·refine OW.o1 (by rfl) (fun S=>by simp only[go_sem,Nat.reduceBEq,Nat.reduceAdd, *];with_reducible exact Is.rfl) ?_
   refine OW.nil (dP.n ?_)
   refine CW.w9 (by simp only[go_sem,Nat.reduceBEq,Nat.reduceAdd, *];exact Is.rfl) ?_
   refine CW.skip (RV _ _ (fun i h1 h2=> ?_) ?_ ?_ hl' YZ hj')
   ·simp only[Fu]
    rw[tV _ _ (by simp;omega),tV _ _ (by simp;omega),tV _ _ (by simp;omega),tV _ _ (by simp;omega)]
   ·simp only[Fu,tX,h1]
   ·simp only[go_sem,Nat.reduceBEq,h2]
  ·refine OW.o1 (by rfl) (fun S=>by simp only[go_sem,Nat.reduceBEq,Nat.reduceAdd, *];with_reducible exact Is.rfl) ?_
   refine OW.nil (dP.n ?_)
   refine CW.Fy (by simp only[go_sem,Nat.reduceBEq,Nat.reduceAdd, *];exact Is.rfl) ?_
   refine CW.seq (CW.region ?_)
   refine OW.o1 (by rfl) (fun S=>by simp only[go_sem,Nat.reduceBEq,Nat.reduceAdd, *];with_reducible exact Is.rfl) ?_
   refine OW.nil (dP.n (CW.ret (RX _ _ ?_ ?_ (YZ.trans .bump))))
   ·simp only[go_sem,Nat.reduceBEq]
   ·exact hD _ _ hl' hd' ⟨Nat.le_add_right _ _,fun _ _=>rfl,fun _ _=>rfl,fun _ _ _=>rfl⟩
 have loop:∀(k i:Nat) (fr:Fr) (σ:ah),i+k=p.bS.length→fr.d=dd→fr.tm 1=yv l→fr.tm 12=lv Pred.v p.bS→fr.tm 13= .int .i64 (p.bS.length:Nat)→fr.tm 14= .int .i64 (i:Nat)→p.bS.length<2^62→l<σ.next→Pg d dd l σ0 σ→J (yl (jZ (p.bS.drop i))++L) σ→
  CW E ((aQ Tryz.f153.body [1,1,0,1,0]).getD .skip) fr σ (fun e fr' σ'=>(e= .exit 0∧J L σ'∧Pg d dd l σ0 σ')∨(e= .ret∧fr'.tm 4= .bool false∧D σ'∧Pg d dd l σ0 σ')):=by
  intro k
  induction k with
  |zero=>
   intro i fr σ hi h1 h2 h3 h4 h5 hb hl hp hj
   refine CW.loop (CW.seq (CW.region ?_))
   refine OW.o1 (by rfl) (fun S=>by simp only[go_sem,Nat.reduceBEq,Nat.reduceAdd, *];with_reducible exact Is.rfl) ?_
   refine OW.nil (dP.n ?_)
   have e:decide (((i:Nat):Int)< ((p.bS.length:Nat):Int))=false:=by simp;omega
   refine CW.seq (CW.w9 (by simp only[go_sem,Nat.reduceBEq,Nat.reduceAdd, *];exact Is.rfl) ?_)
   refine CW.exit (dP.x (qB.x (.inl ⟨rfl, ?_,hp.trans .bump⟩)))
   have:p.bS.drop i=[]:=List.drop_eq_nil_of_le (by omega)
   rw[this] at hj
   exact hJ _ _ _ hl (by simpa [yl,jZ] using hj) ⟨Nat.le_add_right _ _,fun _ _=>rfl,fun _ _=>rfl,fun _ _ _=>rfl⟩
  |succ k ihk=>
   intro i fr σ hi h1 h2 h3 h4 h5 hb hl hp hj
   have hlt:i<p.bS.length:=by omega
   have hx:aL p.bS ((i:Nat):Int)=some p.bS[i]:=by
    unfold aL;rw[if_pos ⟨by omega,by omega⟩];simp[hlt]
   have hdrop:p.bS.drop i=p.bS[i]::p.bS.drop (i+1):=List.drop_eq_getElem_cons hlt
   have hmem:p.bS[i]∈p.bS:=List.getElem_mem hlt
   generalize p.bS[i]=q at hx hdrop hmem
   refine CW.loop (CW.seq (CW.region ?_))
   refine OW.o1 (by rfl) (fun S=>by simp only[go_sem,Nat.reduceBEq,Nat.reduceAdd, *];with_reducible exact Is.rfl) ?_
   refine OW.nil (dP.n ?_)
   have e:decide (((i:Nat):Int)< ((p.bS.length:Nat):Int))=true:=by simp;omega
   refine CW.seq (CW.Fy (by simp only[go_sem,Nat.reduceBEq,Nat.reduceAdd, *];exact Is.rfl) ?_)
   refine CW.skip (dP.n ?_)
   refine CW.seq (CW.block (CW.seq (CW.region ?_)))
   have hP:E.P=Tryz.prog:=rfl
   have apn:lU Tryz.prog 47 (lv Pred.v p.bS) (.int .i64 ((i:Nat):Int))=some (.aK q.c 0):=by
    rw[Wp,if_pos (by rfl)]
    have e1:iY Tryz.prog 47=some 49:=by kernel_rfl
    have e2:bX Tryz.prog 49=some 6:=by kernel_rfl
    rw[e1];simp only[Option.bind_some,e2,hx]
    rfl
   refine OW.o1 (by rfl) (fun S=>by simp only[go_sem,Nat.reduceBEq,Nat.reduceAdd, *];with_reducible exact Is.rfl) ?_
   refine OW.o1 (by rfl) (fun S=>by simp only[go_sem,Nat.reduceBEq,Nat.reduceAdd, *];with_reducible exact Is.rfl) ?_
   have hz:gZ Tryz.prog 49=some (.agg [.int .i64 0,.str [],.int .i64 0,.int .i64 0,.str [],.ak .nil []]):=by kernel_rfl
   refine OW.o1 (by rfl) (fun S=>by simp only[go_sem,Nat.reduceBEq,Nat.reduceAdd, *];with_reducible exact Is.rfl) ?_
   have apo:bX Tryz.prog 49=some 6:=by kernel_rfl
   have hsp:fB [.int .i64 0,.str [],.int .i64 0,.int .i64 0,.str [],.ak .nil []] 0 q.c=q.c:=rfl
   refine OW.o0 (by rfl) (fun S=>by
    rw[Ws]
    simp only[go_sem,Nat.reduceBEq,Nat.reduceAdd, *]
    rw[if_pos (by decide)]
    exact Is.rfl) ?_
   refine OW.nil (NQ.i (dP.n ?_))
   rw[hdrop] at hj
   have hj1:J (yl (pre q)++(yl (jZ (p.bS.drop (i+1)))++L)) σ:=by
    have:yl (jZ (q::p.bS.drop (i+1)))=yl (pre q)++yl (jZ (p.bS.drop (i+1))):=by simp[yl,jZ]
    rw[this,List.append_assoc] at hj;exact hj
   refine part _ _ ?s q _ _ ?hq ?RU ?h1 ?h2 ?h3 ?h4 ?hl ?hp (hJ _ _ _ hl hj1 ?hsh) ?RV ?RX
   case h3=>simp only[go_sem,Nat.reduceBEq,Nat.reduceAdd, *];rfl
   case hq=>
    have h7:=List.sizeOf_lt_of_mem hmem
    have h8:sizeOf p.bS<sizeOf p:=by cases p;simp;omega
    omega
   case RU=>have h:=YX hmem;rw[pre_eq] at hsz;simp at hsz;omega
   case h1=>simp only[tX,h1]
   case h2=>simp only[go_sem,Nat.reduceBEq,Nat.reduceAdd, *]
   case h4=>exact qC _ _ _ _
   case hl=>exact Nat.lt_of_lt_of_le hl (Nat.le_trans (Nat.le_add_right _ _) (Nat.le_add_right _ _))
   case hp=>exact hp.trans (Pg.trans .bump (Pg.trans .bump (Pg.trans .set .set)))
   case hsh=>exact⟨Nat.le_trans (Nat.le_add_right _ _) (Nat.le_add_right _ _),fun _ _=>rfl,fun _ _=>rfl,fun a o ha=>(Mf (by omega)).trans (Mf (by omega))⟩
   case RV=>
    intro fr' σ' k1 k2 k3 k4 k5 k6
    refine nL.n (dP.n (CW.region ?_))
    have t12:fr'.tm 12=lv Pred.v p.bS:=by rw[k1 12 (by omega) (by omega)];simp only[go_sem,Nat.reduceBEq,Nat.reduceAdd, *]
    have t13:fr'.tm 13= .int .i64 (p.bS.length:Nat):=by rw[k1 13 (by omega) (by omega)];simp only[go_sem,Nat.reduceBEq,Nat.reduceAdd, *]
    have t14:fr'.tm 14= .int .i64 (i:Nat):=by rw[k1 14 (by omega) (by omega)];simp only[go_sem,Nat.reduceBEq,Nat.reduceAdd, *]
    have hw:IntKind.wrap .i64 ((i:Int)+(1:Int))=((i+1:Nat):Int):=by rw[IntKind.wrap_i64];omega
    refine OW.o1 (by rfl) (fun S=>by simp only[go_sem,Nat.reduceBEq,Nat.reduceAdd, *];with_reducible exact Is.rfl) ?_
    refine OW.o1 (by rfl) (fun S=>by simp only[go_sem,Nat.reduceBEq,Nat.reduceAdd, *];with_reducible exact Is.rfl) ?_
    refine OW.nil (NQ.i (qB.n (ihk (i+1) _ _ (by omega) ?_ ?_ ?_ ?_ ?_ hb ?_ (k5.trans .bump) ?_)))
    ·simp only[tX,k2]
    ·simp only[go_sem,Nat.reduceBEq,Nat.reduceAdd, *]
    ·simp only[go_sem,Nat.reduceBEq,Nat.reduceAdd, *]
    ·simp only[go_sem,Nat.reduceBEq,Nat.reduceAdd, *]
    ·simp only[go_sem,Nat.reduceBEq,Nat.reduceAdd, *]
    ·exact Nat.lt_of_lt_of_le k4 (Nat.le_add_right _ _)
    ·exact hJ _ _ _ k4 k6 ⟨Nat.le_add_right _ _,fun _ _=>rfl,fun _ _=>rfl,fun _ _ _=>rfl⟩
   case RX=>
    intro fr' σ' k1 k2 k3
    exact nL.r (dP.r (qB.r (.inr ⟨rfl,k1,k2,k3⟩)))
 refine kM.of (fn:=Tryz.f153) (c:=Tryz.f153.body.getD .skip) Tryz.func153 rfl (by kernel_rfl) ?_
 generalize hfr:({d:=dd,om:=E.om 153,tm:=fun i=>[Pred.v p,yv l].getD i ay}:Fr)=fr
 have h0:fr.tm 0=Pred.v p:=by rw[←hfr];rfl
 have h1:fr.tm 1=yv l:=by rw[←hfr];rfl
 have hdd:fr.d=dd:=by rw[←hfr]
 have hP:E.P=Tryz.prog:=rfl
 clear hfr
 refine CW.seq (CW.region ?_)
 refine OW.o1 (by rfl) (fun S=>by simp only[go_sem,Nat.reduceBEq,Nat.reduceAdd, *];with_reducible exact Is.rfl) ?_
 refine OW.o1 (by rfl) (fun S=>by simp only[go_sem,Nat.reduceBEq,Nat.reduceAdd, *];with_reducible exact Is.rfl) ?_
 refine OW.nil (dP.n ?_)
 refine CW.seq (CW.seq (CW.region ?_))
 refine OW.o1 (by rfl) (fun S=>by simp only[go_sem,Nat.reduceBEq,Nat.reduceAdd, *];with_reducible exact Is.rfl) ?_
 refine OW.o1 (by rfl) (fun S=>by simp only[go_sem,Nat.reduceBEq,Nat.reduceAdd, *];with_reducible exact Is.rfl) ?_
 rw[pre_eq] at hj
 have hj':J ([Pred.v p]::(yl (jZ p.bS)++L)) (((σ0.bump 2).setObj (dd,2) σ0.next (.cells p.c)).bump 4):=hJ _ _ _ hl (by simpa [yl] using hj) ⟨Nat.le_trans (Nat.le_add_right _ 2) (Nat.le_add_right _ 4),fun _ _=>rfl,fun _ _=>rfl,fun a o ha=>Mf (by omega)⟩
 have hl1:l< (((σ0.bump 2).setObj (dd,2) σ0.next (.cells p.c)).bump 4).next:=by show l<σ0.next+2+4;omega
 obtain⟨c,σ1,hrnd,hn1,ho1,hlo1,hc1,hc2⟩:=hr _ _ _ hl1 hj'
 have hcell:σ1.cu (dd,2) σ0.next=some p.c:=by
  rw[aiO (ho1 dd 2 hd)]
  exact qC _ _ _ _
 have RY:Pg d dd l σ0 σ1:=(Pg.trans aB .bump).trans ⟨hn1,fun a o ha _=>ho1 a o ha,hlo1⟩
 have hl2:l<σ1.next:=Nat.lt_of_lt_of_le hl RY.1
 refine OW.yield (l:=l) (b:=c) (by rfl) rfl rfl ?_ hrnd ?_
 ·simp only[go_sem,Nat.reduceBEq,Nat.reduceAdd, *]
 refine OW.o1 (by rfl) (fun S=>by simp only[go_sem,Nat.reduceBEq,Nat.reduceAdd, *];with_reducible exact Is.rfl) ?_
 refine OW.nil (dP.n ?_)
 cases c with
 |false=>
  refine CW.Fy (by simp only[go_sem,Nat.reduceBEq,Nat.reduceAdd, *];exact Is.rfl) ?_
  refine CW.seq (CW.region ?_)
  refine OW.o1 (by rfl) (fun S=>by simp only[go_sem,Nat.reduceBEq,Nat.reduceAdd, *];with_reducible exact Is.rfl) ?_
  refine OW.nil (dP.n (CW.ret (dP.r ?_)))
  refine nM.one (by simp) (by simp only[go_sem,Nat.reduceBEq,Nat.reduceAdd,iD];with_reducible exact Is.rfl) ⟨RY.trans .bump,.inr ⟨rfl, ?_⟩⟩
  exact hD _ _ hl2 (hc2 rfl) ⟨Nat.le_add_right _ _,fun _ _=>rfl,fun _ _=>rfl,fun _ _ _=>rfl⟩
 |true=>
  have hlen:p.bS.length<2^62∨2^62≤p.bS.length:=by omega
  refine CW.w9 (by simp only[go_sem,Nat.reduceBEq,Nat.reduceAdd, *];exact Is.rfl) ?_
  refine CW.skip (dP.n ?_)
  refine CW.seq (CW.seq (CW.region ?_))
  refine OW.o1 (by rfl) (fun S=>by simp only[go_sem,Nat.reduceBEq,Nat.reduceAdd, *];with_reducible exact Is.rfl) ?_
  refine OW.o1 (by rfl) (fun S=>by simp only[go_sem,Nat.reduceBEq,Nat.reduceAdd, *];with_reducible exact Is.rfl) ?_
  refine OW.o1 (by rfl) (fun S=>by simp only[go_sem,Nat.reduceBEq,Nat.reduceAdd, *];with_reducible exact Is.rfl) ?_
  refine OW.o1 (by rfl) (fun S=>by simp only[go_sem,Nat.reduceBEq,Nat.reduceAdd, *];with_reducible exact Is.rfl) ?_
  refine OW.nil (dP.n (CW.block ?_))
  refine(loop p.bS.length 0 _ _ (by omega) ?_ ?_ ?_ ?_ ?_ ?_ ?_ (RY.trans .bump) ?_).mono ?_
  ·simp only[tX,Fu,hdd]
  ·simp only[go_sem,Nat.reduceBEq,Nat.reduceAdd, *]
  ·simp only[go_sem,Nat.reduceBEq,Nat.reduceAdd, *]
  ·simp only[go_sem,Nat.reduceBEq,Nat.reduceAdd, *]
  ·simp only[go_sem,Nat.reduceBEq,Nat.reduceAdd, *];rfl
  ·have h:=YW p.bS;rw[pre_eq] at hsz;simp at hsz;omega
  ·exact Nat.lt_of_lt_of_le hl2 (Nat.le_add_right _ _)
  ·exact hJ _ _ _ hl2 (by simpa using hc1 rfl) ⟨Nat.le_add_right _ _,fun _ _=>rfl,fun _ _=>rfl,fun _ _ _=>rfl⟩
  ·rintro e fr' σ' (⟨rfl,k1,k2⟩| ⟨rfl,k1,k2,k3⟩)
   ·refine nL.hit (dP.n (CW.seq (CW.region ?_)))
    refine OW.o1 (by rfl) (fun S=>by simp only[go_sem,Nat.reduceBEq,Nat.reduceAdd, *];with_reducible exact Is.rfl) ?_
    refine OW.nil (dP.n (CW.ret ?_))
    refine nM.one (by simp) (by simp only[go_sem,Nat.reduceBEq,Nat.reduceAdd,iD];with_reducible exact Is.rfl) ⟨k2.trans .bump,.inl ⟨rfl, ?_⟩⟩
    exact hJ _ _ _ (Nat.lt_of_lt_of_le hl k2.1) k1 ⟨Nat.le_add_right _ _,fun _ _=>rfl,fun _ _=>rfl,fun _ _ _=>rfl⟩
   ·refine nL.r (dP.r (nM.one (by simp) (by simp only[iD];rw[k1];exact Is.rfl) ⟨k3,.inr ⟨rfl,k2⟩⟩))
theorem aiQ (p:Pred) (hsz:(pre p).length<2^62):Gi E 152 [] [.aK p.c 0] (yl (pre p)):=by
 intro d l σ J D hJ hD hr hl hj
 refine kM.of (fn:=Tryz.f152) (c:=Tryz.f152.body.getD .skip) Tryz.func152 rfl (by kernel_rfl) ?_
 generalize hfr:({d:=d+1,om:=E.om 152,tm:=fun i=>([]++[.fn (.yield l) [] []]++[.aK p.c 0]:List V).getD i ay}:Fr)=fr
 have h0:fr.tm 0=yv l:=by rw[←hfr];rfl
 have h1:fr.tm 1= .aK p.c 0:=by rw[←hfr];rfl
 have hdd:fr.d=d+1:=by rw[←hfr]
 have hP:E.P=Tryz.prog:=rfl
 clear hfr
 refine CW.region ?_
 refine OW.o1 (by rfl) (fun S=>by simp only[go_sem,Nat.reduceBEq,Nat.reduceAdd, *];with_reducible exact Is.rfl) ?_
 refine OW.o1 (by rfl) (fun S=>by simp only[go_sem,Nat.reduceBEq,Nat.reduceAdd, *];with_reducible exact Is.rfl) ?_
 refine OW.PY (g:=153) (a:=[]) (b:=[]) (by rfl) rfl rfl rfl rfl ?_
 rw[tX,tX,hdd]
 change kM E 153 [Pred.v p,yv l] (d+1+1) _ _
 obtain⟨n,v,σ1,hn,hpg,hv⟩:=aiP hJ hD hr (sizeOf p+1) p (by omega) hsz (d+1+1) (σ.bump 3) [] (by omega) (Nat.lt_of_lt_of_le hl (Nat.le_add_right _ _)) (hJ _ _ _ hl (by simpa using hj) ⟨Nat.le_add_right _ _,fun _ _=>rfl,fun _ _=>rfl,fun _ _ _=>rfl⟩)
 refine⟨n,v,σ1,hn,OW.nil ?_⟩
 refine⟨[],rfl,Nat.le_trans (Nat.le_add_right _ 3) hpg.1, ?_⟩
 rcases hv with ⟨_,h⟩| ⟨_,h⟩
 ·exact .inl h
 ·exact .inr h
def Y0 (p:Pred):Option (List Pred):=if (pre p).length<2^62 then some (pre p) else none
abbrev RZ:List Sk:=[.d (.int .i64),.d .str,.d (.int .i64),.d (.int .i64),.d .str,.d (.slice (.st 8))]
abbrev Y1:List Sk:=[.d (.st 8)]
noncomputable def aJ:Nat→List (FI R):=uQ 152 ⟨[],[.aK RZ 0],Y1,fun _ q=>Y0 (⟨q.1,q.2.1,q.2.2.1,q.2.2.2.1,q.2.2.2.2.1,q.2.2.2.2.2⟩:Pred)⟩ YP
theorem bG:vQ E aJ:=by
 refine aiL aiK ⟨rfl,fun pa pb xs h=> ?_⟩
 unfold Y0 at h
 dsimp only at h
 split at h
 ·rename_i hsz
  cases h
  have:=aiQ _ hsz
  have e:∀q:aj R.T RZ,au R [.aK RZ 0] q=[.aK (Pred.c ⟨q.1,q.2.1,q.2.2.1,q.2.2.2.1,q.2.2.2.2.1,q.2.2.2.2.2⟩) 0]:=fun q=>by
   unfold Pred.c;rw[Pred.uZ];rfl
  have e2:∀l:List Pred,List.map (au R Y1) l=yl l:=fun l=>rfl
  exact Eq.mpr (congrArg (fun b=>Gi E 152 [] b (yl (pre ⟨pb.1,pb.2.1,pb.2.2.1,pb.2.2.2.1,pb.2.2.2.2.1,pb.2.2.2.2.2⟩))) (e pb)) this
 ·cases h
end Sh
end
section
open Go Go.Proofs Aq
namespace Sh
set_option maxRecDepth 100000
set_option linter.unusedSimpArgs false
set_option linter.unusedVariables false
abbrev Mg:List Sk:=[.dG,.d (.int .i64)]
def Ba (k:Int):Option (List Int):=if 0≤k∧k≤2^40 then some [] else none
@[irreducible] def Bb (p:aj R.T Mg):Option (List Int):=Ba p.2
@[irreducible] def Bc (p:aj R.T Mg):Option (List Int):=Ba p.2
theorem Y2 {n:Int} (h0: -(2^63)≤n) (h1:n<2^63):IntKind.i64.wrap n=n:=by
 rw[IntKind.wrap_i64];omega
def R3 (sz:Nat) (v:V) (σ:ah):Prop:=v= .ak .nil []∨∃loc s cap ag cs,v= .vw loc s 0 0 cap sz ag∧σ.cu loc s=some cs
section
variable {E:Env} {S:iJ} {fr:Fr} {σ:ah} {st ty:Nat} {pos:String} {bW:Array Edge} {gd:Option (Nat×Bool)}
theorem Mh {d:Option Nat} {x:Operand} {t e:TypeId} (hx:fr.ev E x= .ak .nil []) (ht:iY E.P t=some e):opC E S fr σ st ⟨d,.call ⟨.builtin .cap, #[x], #[t]⟩,ty,pos,bW,gd⟩=some (.int .i64 0,fr,σ):=by
 show Option.map _ ((some t).bind fun t=>(iY E.P t).bind fun _=>match fr.ev E x with
  |.ak .nil l|.ak .full l=>some (V.int .i64 l.length,σ)
  |_=>none)=_
 rw[Option.bind_some,ht,hx];rfl
theorem Y3 {d:Option Nat} {x h:Operand} {t e:TypeId} {sz:Nat} (hx:fr.ev E x= .ak .nil []) (hh:fr.ev E h= .int .i64 0) (hu:E.P.underlying t=some (.slice e)) (hs:bX E.P e=some sz):
 opC E S fr σ st ⟨d,.slice t x none (some h) none,ty,pos,bW,gd⟩=some (.ak .nil [],fr,σ):=by
 show Option.map _ ((kS E.P σ t (fr.ev E x) none (some (fr.ev E h)) none).map fun v=>(v,σ))=_
 rw[hx,hh]
 unfold kS
 rw[hu];dsimp only
 rw[hs];rfl
theorem Y4 {d:Option Nat} {x h:Operand} {t e:TypeId} {sz len cap s:Nat} {loc:Aq.Loc} {ag:Bool} (hx:fr.ev E x= .vw loc s 0 len cap sz ag) (hh:fr.ev E h= .int .i64 0) (hu:E.P.underlying t=some (.slice e)) (hs:bX E.P e=some sz):
 opC E S fr σ st ⟨d,.slice t x none (some h) none,ty,pos,bW,gd⟩=some (.vw loc s 0 0 cap sz ag,fr,σ):=by
 show Option.map _ ((kS E.P σ t (fr.ev E x) none (some (fr.ev E h)) none).map fun v=>(v,σ))=_
 rw[hx,hh]
 unfold kS
 rw[hu];dsimp only
 rw[hs]
 have:jR len cap none (some (.int .i64 0)) none=some (0,0,cap):=by
  unfold jR bnd kI
  simp
 rw[this]
 simp
def Y5 (k:Int) (z:V):Nat:=0+(List.replicate k.toNat z).length
def R4 (k:Int) (z:V):List V:=(([]:List V)++List.replicate k.toNat z).flatMap V.cells
theorem Y6 {d:Nat} {x y:Operand} {t u e:TypeId} {k:Int} {sz d9:Nat} {z:V} {ag:Bool} (ho:fr.om=true) (hx:fr.ev E x= .ak .nil []) (hy:fr.ev E y= .int .i64 k) (hu:E.P.underlying u=some (.int .i64))
 (h1:iY E.P t=some e) (h2:bX E.P e=some sz) (h3:og E.P e=some d9) (h4:gY E.P e=some ag) (h5:gZ E.P e=some z) (h6:z.cells.length=sz) (h7:0<sz) (h8:(ag||sz==1)=true) (h9:bL z.cells=true)
 (h10:d9≤8) (k0:0≤k) (k1:k≤2^40):
 opC E S fr σ st ⟨some d,.call ⟨.builtin .append, #[x,y], #[t,u]⟩,ty,pos,bW,gd⟩=some (.vw (fr.d,d) st 0 (Y5 k z) (Y5 k z) sz ag,fr,σ.setObj (fr.d,d) st (.cells (R4 k z))):=by
 show Option.map _ ((some t).bind fun t=>((some u).bind E.P.underlying).bind fun u=>match u with
  |.int _=>iB E.P fr.om true σ st (some (fr.d,d)) t (fr.ev E x) (fr.ev E y)
  |.slice _|.string=>iB E.P fr.om false σ st (some (fr.d,d)) t (fr.ev E x) (fr.ev E y)
  |_=>none)=_
 rw[Option.bind_some,Option.bind_some,hu,ho,hx,hy]
 show Option.map _ (iB E.P true true σ st (some (fr.d,d)) t (.ak .nil []) (.int .i64 k))=_
 unfold iB
 rw[h1,Option.bind_some,h2,Option.bind_some,h3,Option.bind_some,h4,Option.bind_some,h5,Option.bind_some,if_pos ⟨rfl,h6,h7,h8⟩]
 rw[show jG σ ag sz z (.int .i64 k)=some (List.replicate k.toNat z) from (if_pos ⟨k0,by omega⟩:(if 0≤k∧k≤2^47 then some (List.replicate k.toNat z) else none)=_),Option.bind_some,if_pos (by rw[List.all_replicate,h9];simp)]
 dsimp only
 have hr:bN (([]:List V).length+(List.replicate k.toNat z).length) d9=true:=by
  unfold bN
  simp only[List.length_nil,Nat.zero_add,List.length_replicate,Bool.and_eq_true,decide_eq_true_eq]
  have hk:k.toNat≤2^40:=by omega
  exact⟨Nat.le_trans (Nat.mul_le_mul hk h10) (by decide),by omega⟩
 rw[if_pos ⟨hr,rfl⟩]
 rfl
end
theorem aiR (k:Int) (h0:0≤k) (h1:k≤2^40):kM E 199 [.ak .nil [],.int .i64 k] 1 ah.init (R3 1):=by
 have hP:E.P=Tryz.prog:=rfl
 have e1:iY E.P 27=some 3:=by kernel_rfl
 have e2:bX E.P 3=some 1:=by kernel_rfl
 have e6:E.P.underlying 27=some (.slice 3):=by kernel_rfl
 have e7:E.P.underlying 3=some (.int .i64):=by kernel_rfl
 have e8:gZ E.P 3=some (.int .i64 0):=by kernel_rfl
 have e9:gY E.P 3=some false:=by kernel_rfl
 have e10:og E.P 3=some 8:=by kernel_rfl
 have e3:decide (k<0)=false:=decide_eq_false (by omega)
 have e4:IntKind.i64.wrap (k-0)=k:=by rw[Int.sub_zero];exact Y2 (by omega) (by omega)
 have e5:IntKind.i64.wrap (0-((0:Nat):Int))=0:=by decide
 have hres:Tryz.f199.results.toList=[.tmp 4]:=rfl
 refine kM.of (fn:=Tryz.f199) (c:=Tryz.f199.body.getD .skip) Tryz.func199 rfl (by kernel_rfl) ?_
 generalize hfr:({d:=1,om:=E.om 199,tm:=fun i=>([.ak .nil [],.int .i64 k]:List V).getD i ay}:Fr)=fr
 have a0:fr.tm 0= .ak .nil []:=by rw[←hfr];rfl
 have a1:fr.tm 1= .int .i64 k:=by rw[←hfr];rfl
 have a2:fr.om=true:=by rw[←hfr];rfl
 have a3:fr.d=1:=by rw[←hfr]
 clear hfr
 refine CW.seq (CW.region ?_)
 refine OW.o1 (by rfl) (fun S=>by simp only[go_sem,Nat.reduceBEq,Nat.reduceAdd, *];with_reducible exact Is.rfl) ?_
 refine OW.nil (dP.n ?_)
 refine CW.seq (CW.seq (CW.region ?_))
 refine OW.o1 (by rfl) (fun S=>by simp only[go_sem,Nat.reduceBEq,Nat.reduceAdd, *];with_reducible exact Is.rfl) ?_
 refine OW.o1 (by rfl) (fun S=>by simp only[go_sem,Nat.reduceBEq,Nat.reduceAdd, *];with_reducible exact Is.rfl) ?_
 refine OW.nil (dP.n ?_)
 refine CW.w9 (by simp only[go_sem,Nat.reduceBEq,Nat.reduceAdd, *];exact Is.rfl) ?_
 refine CW.skip (dP.n ?_)
 refine CW.seq (CW.seq (CW.region ?_))
 refine OW.o1 (by rfl) (fun S=>by simp only[go_sem,Nat.reduceBEq,Nat.reduceAdd, *];with_reducible exact Is.rfl) ?_
 refine OW.o1 (by rfl) (fun S=>by simp only[go_sem,Nat.reduceBEq,Nat.reduceAdd, *];with_reducible exact Is.rfl) ?_
 refine OW.o1 (by rfl) (fun S=>Mh (by simp only[go_sem,Nat.reduceBEq, *]) e1) ?_
 refine OW.o1 (by rfl) (fun S=>by simp only[go_sem,Nat.reduceBEq,Nat.reduceAdd, *];with_reducible exact Is.rfl) ?_
 refine OW.o1 (by rfl) (fun S=>by simp only[go_sem,Nat.reduceBEq,Nat.reduceAdd,List.length_nil, *];with_reducible exact Is.rfl) ?_
 refine OW.o1 (by rfl) (fun S=>by simp only[go_sem,Nat.reduceBEq,Nat.reduceAdd, *];with_reducible exact Is.rfl) ?_
 refine OW.o1 (by rfl) (fun S=>by simp only[go_sem,Nat.reduceBEq,Nat.reduceAdd, *];with_reducible exact Is.rfl) ?_
 refine OW.o1 (by rfl) (fun S=>by simp only[go_sem,Nat.reduceBEq,Nat.reduceAdd, *];with_reducible exact Is.rfl) ?_
 refine OW.nil (dP.n ?_)
 refine CW.seq (CW.region ?_)
 refine OW.o1 (by rfl) (fun S=>by simp only[go_sem,Nat.reduceBEq,Nat.reduceAdd, *];with_reducible exact Is.rfl) ?_
 refine OW.o1 (by rfl) (fun S=>by simp only[go_sem,Nat.reduceBEq,Nat.reduceAdd, *];with_reducible exact Is.rfl) ?_
 refine OW.nil (dP.n ?_)
 cases hk:decide (k>0) with
 |false=>
  refine CW.w9 (by simp only[go_sem,Nat.reduceBEq,Nat.reduceAdd, *];exact Is.rfl) ?_
  refine CW.skip (dP.n (dP.n ?_))
  refine CW.seq (CW.region ?_)
  refine OW.o1 (by rfl) (fun S=>by simp only[go_sem,Nat.reduceBEq,Nat.reduceAdd, *];with_reducible exact Is.rfl) ?_
  refine OW.o1 (by rfl) (fun S=>by simp only[go_sem,Nat.reduceBEq,Nat.reduceAdd, *];with_reducible exact Is.rfl) ?_
  refine OW.nil (dP.n ?_)
  refine CW.ret ?_
  rw[hres]
  refine nM.one (v0:=.ak .nil []) (by intro i h;cases h) (by simp only[iD,go_sem,Nat.reduceBEq, *];exact Is.rfl) (.inl rfl)
 |true=>
  refine CW.Fy (by simp only[go_sem,Nat.reduceBEq,Nat.reduceAdd, *];exact Is.rfl) ?_
  refine CW.region ?_
  refine OW.o1 (by rfl) (fun S=>by simp only[go_sem,Nat.reduceBEq,Nat.reduceAdd, *];with_reducible exact Is.rfl) ?_
  refine OW.o1 (by rfl) (fun S=>by simp only[go_sem,Nat.reduceBEq,Nat.reduceAdd, *];with_reducible exact Is.rfl) ?_
  refine OW.o1 (by rfl) (fun S=>Mh (by simp only[go_sem,Nat.reduceBEq, *]) e1) ?_
  refine OW.o1 (by rfl) (fun S=>Y3 (by simp only[go_sem,Nat.reduceBEq, *]) (by simp only[go_sem,Nat.reduceBEq, *]) e6 e2) ?_
  refine OW.o1 (by rfl) (fun S=>by simp only[go_sem,Nat.reduceBEq,Nat.reduceAdd, *];with_reducible exact Is.rfl) ?_
  refine OW.o1 (by rfl) (fun S=>Y6 (k:=k) (by simp only[go_sem,Nat.reduceBEq, *]) (by simp only[go_sem,Nat.reduceBEq, *]) (by simp only[go_sem,Nat.reduceBEq, *]) e7 e1 e2 e10 e9 e8 rfl (by decide) rfl rfl (by decide) h0 h1) ?_
  refine OW.o1 (by rfl) (fun S=>by simp only[go_sem,Nat.reduceBEq,Nat.reduceAdd, *];with_reducible exact Is.rfl) ?_
  refine OW.o1 (by rfl) (fun S=>by simp only[go_sem,Nat.reduceBEq,Nat.reduceAdd, *];with_reducible exact Is.rfl) ?_
  refine OW.o1 (by rfl) (fun S=>Y4 (by simp only[go_sem,Nat.reduceBEq, *];rfl) (by simp only[go_sem,Nat.reduceBEq,List.length_nil, *];rfl) e6 e2) ?_
  refine OW.o1 (by rfl) (fun S=>by simp only[go_sem,Nat.reduceBEq,Nat.reduceAdd, *];with_reducible exact Is.rfl) ?_
  refine OW.nil (dP.n (dP.n ?_))
  refine CW.seq (CW.region ?_)
  refine OW.o1 (by rfl) (fun S=>by simp only[go_sem,Nat.reduceBEq,Nat.reduceAdd, *];with_reducible exact Is.rfl) ?_
  refine OW.o1 (by rfl) (fun S=>by simp only[go_sem,Nat.reduceBEq,Nat.reduceAdd, *];with_reducible exact Is.rfl) ?_
  refine OW.nil (dP.n ?_)
  refine CW.ret ?_
  rw[hres]
  refine nM.one (by intro i h;cases h) (by simp only[iD,go_sem,Nat.reduceBEq, *];exact Is.rfl) (.inr ⟨_,_,_,_,R4 k (.int .i64 0),rfl, ?_⟩)
  simp only[go_sem,Nat.reduceBEq, *]
theorem aiS (k:Int) (h0:0≤k) (h1:k≤2^40):kM E 200 [.ak .nil [],.int .i64 k] 1 ah.init (R3 1):=by
 have hP:E.P=Tryz.prog:=rfl
 have e1:iY E.P 124=some 5:=by kernel_rfl
 have e2:bX E.P 5=some 1:=by kernel_rfl
 have e6:E.P.underlying 124=some (.slice 5):=by kernel_rfl
 have e7:E.P.underlying 3=some (.int .i64):=by kernel_rfl
 have e8:gZ E.P 5=some (.int .u8 0):=by kernel_rfl
 have e9:gY E.P 5=some false:=by kernel_rfl
 have e10:og E.P 5=some 1:=by kernel_rfl
 have e3:decide (k<0)=false:=decide_eq_false (by omega)
 have e4:IntKind.i64.wrap (k-0)=k:=by rw[Int.sub_zero];exact Y2 (by omega) (by omega)
 have e5:IntKind.i64.wrap (0-((0:Nat):Int))=0:=by decide
 have hres:Tryz.f200.results.toList=[.tmp 4]:=rfl
 refine kM.of (fn:=Tryz.f200) (c:=Tryz.f200.body.getD .skip) Tryz.func200 rfl (by kernel_rfl) ?_
 generalize hfr:({d:=1,om:=E.om 200,tm:=fun i=>([.ak .nil [],.int .i64 k]:List V).getD i ay}:Fr)=fr
 have a0:fr.tm 0= .ak .nil []:=by rw[←hfr];rfl
 have a1:fr.tm 1= .int .i64 k:=by rw[←hfr];rfl
 have a2:fr.om=true:=by rw[←hfr];rfl
 have a3:fr.d=1:=by rw[←hfr]
 clear hfr
 refine CW.seq (CW.region ?_)
 refine OW.o1 (by rfl) (fun S=>by simp only[go_sem,Nat.reduceBEq,Nat.reduceAdd, *];with_reducible exact Is.rfl) ?_
 refine OW.nil (dP.n ?_)
 refine CW.seq (CW.seq (CW.region ?_))
 refine OW.o1 (by rfl) (fun S=>by simp only[go_sem,Nat.reduceBEq,Nat.reduceAdd, *];with_reducible exact Is.rfl) ?_
 refine OW.o1 (by rfl) (fun S=>by simp only[go_sem,Nat.reduceBEq,Nat.reduceAdd, *];with_reducible exact Is.rfl) ?_
 refine OW.nil (dP.n ?_)
 refine CW.w9 (by simp only[go_sem,Nat.reduceBEq,Nat.reduceAdd, *];exact Is.rfl) ?_
 refine CW.skip (dP.n ?_)
 refine CW.seq (CW.seq (CW.region ?_))
 refine OW.o1 (by rfl) (fun S=>by simp only[go_sem,Nat.reduceBEq,Nat.reduceAdd, *];with_reducible exact Is.rfl) ?_
 refine OW.o1 (by rfl) (fun S=>by simp only[go_sem,Nat.reduceBEq,Nat.reduceAdd, *];with_reducible exact Is.rfl) ?_
 refine OW.o1 (by rfl) (fun S=>Mh (by simp only[go_sem,Nat.reduceBEq, *]) e1) ?_
 refine OW.o1 (by rfl) (fun S=>by simp only[go_sem,Nat.reduceBEq,Nat.reduceAdd, *];with_reducible exact Is.rfl) ?_
 refine OW.o1 (by rfl) (fun S=>by simp only[go_sem,Nat.reduceBEq,Nat.reduceAdd,List.length_nil, *];with_reducible exact Is.rfl) ?_
 refine OW.o1 (by rfl) (fun S=>by simp only[go_sem,Nat.reduceBEq,Nat.reduceAdd, *];with_reducible exact Is.rfl) ?_
 refine OW.o1 (by rfl) (fun S=>by simp only[go_sem,Nat.reduceBEq,Nat.reduceAdd, *];with_reducible exact Is.rfl) ?_
 refine OW.o1 (by rfl) (fun S=>by simp only[go_sem,Nat.reduceBEq,Nat.reduceAdd, *];with_reducible exact Is.rfl) ?_
 refine OW.nil (dP.n ?_)
 refine CW.seq (CW.region ?_)
 refine OW.o1 (by rfl) (fun S=>by simp only[go_sem,Nat.reduceBEq,Nat.reduceAdd, *];with_reducible exact Is.rfl) ?_
 refine OW.o1 (by rfl) (fun S=>by simp only[go_sem,Nat.reduceBEq,Nat.reduceAdd, *];with_reducible exact Is.rfl) ?_
 refine OW.nil (dP.n ?_)
 cases hk:decide (k>0) with
 |false=>
  refine CW.w9 (by simp only[go_sem,Nat.reduceBEq,Nat.reduceAdd, *];exact Is.rfl) ?_
  refine CW.skip (dP.n (dP.n ?_))
  refine CW.seq (CW.region ?_)
  refine OW.o1 (by rfl) (fun S=>by simp only[go_sem,Nat.reduceBEq,Nat.reduceAdd, *];with_reducible exact Is.rfl) ?_
  refine OW.o1 (by rfl) (fun S=>by simp only[go_sem,Nat.reduceBEq,Nat.reduceAdd, *];with_reducible exact Is.rfl) ?_
  refine OW.nil (dP.n ?_)
  refine CW.ret ?_
  rw[hres]
  refine nM.one (v0:=.ak .nil []) (by intro i h;cases h) (by simp only[iD,go_sem,Nat.reduceBEq, *];exact Is.rfl) (.inl rfl)
 |true=>
  refine CW.Fy (by simp only[go_sem,Nat.reduceBEq,Nat.reduceAdd, *];exact Is.rfl) ?_
  refine CW.region ?_
  refine OW.o1 (by rfl) (fun S=>by simp only[go_sem,Nat.reduceBEq,Nat.reduceAdd, *];with_reducible exact Is.rfl) ?_
  refine OW.o1 (by rfl) (fun S=>by simp only[go_sem,Nat.reduceBEq,Nat.reduceAdd, *];with_reducible exact Is.rfl) ?_
  refine OW.o1 (by rfl) (fun S=>Mh (by simp only[go_sem,Nat.reduceBEq, *]) e1) ?_
  refine OW.o1 (by rfl) (fun S=>Y3 (by simp only[go_sem,Nat.reduceBEq, *]) (by simp only[go_sem,Nat.reduceBEq, *]) e6 e2) ?_
  refine OW.o1 (by rfl) (fun S=>by simp only[go_sem,Nat.reduceBEq,Nat.reduceAdd, *];with_reducible exact Is.rfl) ?_
  refine OW.o1 (by rfl) (fun S=>Y6 (k:=k) (by simp only[go_sem,Nat.reduceBEq, *]) (by simp only[go_sem,Nat.reduceBEq, *]) (by simp only[go_sem,Nat.reduceBEq, *]) e7 e1 e2 e10 e9 e8 rfl (by decide) rfl rfl (by decide) h0 h1) ?_
  refine OW.o1 (by rfl) (fun S=>by simp only[go_sem,Nat.reduceBEq,Nat.reduceAdd, *];with_reducible exact Is.rfl) ?_
  refine OW.o1 (by rfl) (fun S=>by simp only[go_sem,Nat.reduceBEq,Nat.reduceAdd, *];with_reducible exact Is.rfl) ?_
  refine OW.o1 (by rfl) (fun S=>Y4 (by simp only[go_sem,Nat.reduceBEq, *];rfl) (by simp only[go_sem,Nat.reduceBEq,List.length_nil, *];rfl) e6 e2) ?_
  refine OW.o1 (by rfl) (fun S=>by simp only[go_sem,Nat.reduceBEq,Nat.reduceAdd, *];with_reducible exact Is.rfl) ?_
  refine OW.nil (dP.n (dP.n ?_))
  refine CW.seq (CW.region ?_)
  refine OW.o1 (by rfl) (fun S=>by simp only[go_sem,Nat.reduceBEq,Nat.reduceAdd, *];with_reducible exact Is.rfl) ?_
  refine OW.o1 (by rfl) (fun S=>by simp only[go_sem,Nat.reduceBEq,Nat.reduceAdd, *];with_reducible exact Is.rfl) ?_
  refine OW.nil (dP.n ?_)
  refine CW.ret ?_
  rw[hres]
  refine nM.one (by intro i h;cases h) (by simp only[iD,go_sem,Nat.reduceBEq, *];exact Is.rfl) (.inr ⟨_,_,_,_,R4 k (.int .u8 0),rfl, ?_⟩)
  simp only[go_sem,Nat.reduceBEq, *]
theorem Y7 {f sz:Nat} {l:List V} {k:Int} (h:kM E f [.ak .nil [],.int .i64 k] 1 ah.init (R3 sz)):lZ E f [.ak .nil [],.int .i64 k] sz []:=by
 obtain⟨n,v,σ1,h1,h2⟩:=h
 refine⟨n,v,σ1,h1,fun st σ=> ?_⟩
 rcases h2 with rfl| ⟨loc,s,cap,ag,cs,rfl,hc⟩
 ·exact .inl ⟨.nil,.inl rfl,rfl⟩
 ·exact .inr (by unfold o8;dsimp only;rw[if_pos ⟨rfl,rfl⟩,hc];rfl)
theorem Y8 {k:Int} {x:List Int} (h:Ba k=some x):0≤k∧k≤2^40∧x=[]:=by
 unfold Ba at h
 split at h
 ·rename_i hk;cases h;exact⟨hk.1,hk.2,rfl⟩
 ·cases h
theorem aiT:∀u p x,Bb (u,p)=some x→lZ E 199 (.ak .nil []::au R [.d (.int .i64)] p) (cZ R (.int .i64)) (x.map (aF R (.int .i64))):=by
 intro u p x h
 unfold Bb at h
 obtain⟨h0,h1,rfl⟩:=Y8 h
 exact Y7 (l:=[]) (aiR p h0 h1)
theorem aiU:∀u p x,Bc (u,p)=some x→lZ E 200 (.ak .nil []::au R [.d (.int .i64)] p) (cZ R (.int .u8)) (x.map (aF R (.int .u8))):=by
 intro u p x h
 unfold Bc at h
 obtain⟨h0,h1,rfl⟩:=Y8 h
 exact Y7 (l:=[]) (aiS p h0 h1)
noncomputable def Mi (_:Nat):Nat→List (FR R):=bn 200 ⟨Mg,[.d (.slice (.int .u8))],Bc,[],true⟩ (bn 199 ⟨Mg,[.d (.slice (.int .i64))],Bb,[],true⟩ YO)
theorem Y9 (n:Nat):aS E (Mi n):=YQ (YQ aiM aiT) aiU
end Sh
end
section
open Go Go.Proofs Aq
namespace Sh
theorem aiV:Pure E 11 [] (.bool true):=⟨0,rfl⟩
end Sh
end
