import Derived.Test.YteniejlbjfigdaaGreatDoorF513
import Derived.Test.YteniejlbjfigdaaGreatDoorF514
set_option linter.all false
noncomputable section
open Go.IntKind (wrap)
section
open Go Go.Proofs aR
namespace Sh
set_option maxRecDepth 100000
def Fq:Nat->Type
 |0=>Def|1=>aG|2=>Attr|3=>Entry|4=>Row|5=>Book|6=>aC|7=>Gone|8=>Pred|9=>Law|10=>jO|11=>Snapshot|12=>jP|13=>Event|14=>Query|15=>jQ|16=>fJ|17=>jR|18=>bE|19=>jS|20=>jT|21=>dO|_+22=>Unit
def rd:(n:Nat)->Fq n
 |0=>(⟨[],0,0,0,[]⟩:Def)|1=>(⟨0,0,[]⟩:aG)|2=>(⟨[],0,0,[]⟩:Attr)|3=>(⟨0,0,0,0,0,0,0,[],[]⟩:Entry)|4=>(⟨⟨0,0,0,0,0,0,0,[],[]⟩,0⟩:Row)|5=>(⟨⟨0,0,[]⟩,0,0,[],[]⟩:Book)|6=>(⟨0,0,0,0,0,0,0,0,0,0,0,0,0,0,0,0⟩:aC)|7=>(⟨0,0,0,0,⟨0,0,0,0,0,0,0,0,0,0,0,0,0,0,0,0⟩⟩:Gone)|8=>(⟨0,[],0,0,[],[]⟩:Pred)|9=>(⟨[],⟨0,[],0,0,[],[]⟩,0⟩:Law)|10=>(⟨⟨⟨0,0,[]⟩,0,0,[],[]⟩,[],0⟩:jO)|11=>(⟨0,0⟩:Snapshot)|12=>(⟨[],0⟩:jP)|13=>(⟨0,0,0,0,0,0,0,[],[],⟨0,0,0,0,0,0,0,0,0,0,0,0,0,0,0,0⟩⟩:Event)
 |14=>(⟨[],0,0,⟨0,[],0,0,[],[]⟩,⟨0,0⟩,0⟩:Query)|15=>(⟨0,0,0⟩:jQ)|16=>(⟨⟨⟨0,0,[]⟩,0,0,[],[]⟩,0,0⟩:fJ)|17=>(⟨[],0⟩:jR)|18=>(⟨⟨⟨0,0,[]⟩,0,0,[],[]⟩,0⟩:bE)|19=>(⟨[],false⟩:jS)|20=>(⟨⟨[],0,0,[]⟩,false⟩:jT)|21=>(⟨0,0⟩:dO)|_+22=>()
def Yl:Nat->List Ty
 |0=>[.str,.int .i64,.int .i64,.int .i64,.slice .str]|1=>[.int .i64,.int .i64,.slice (.st 0)]|2=>[.str,.int .i64,.int .i64,.str]|3=>[.int .i64,.int .i64,.int .i64,.int .i64,.int .i64,.int .i64,.int .i64,.slice (.int .i64),.slice (.st 2)]|4=>[.int .i64,.int .i64,.int .i64,.int .i64,.int .i64,.int .i64,.int .i64,.slice (.int .i64),.slice (.st 2),.int .i64]|5=>[.int .i64,.int .i64,.slice (.st 0),.int .i64,.int .i64,.slice (.int .i64),.slice (.st 4)]
 |6=>[.int .u8,.int .u8,.int .u8,.int .u8,.int .u8,.int .u8,.int .u8,.int .u8,.int .u8,.int .u8,.int .u8,.int .u8,.int .u8,.int .u8,.int .u8,.int .u8]|7=>[.int .i64,.int .i64,.int .i64,.int .i64,.int .u8,.int .u8,.int .u8,.int .u8,.int .u8,.int .u8,.int .u8,.int .u8,.int .u8,.int .u8,.int .u8,.int .u8,.int .u8,.int .u8,.int .u8,.int .u8]|8=>[.int .i64,.str,.int .i64,.int .i64,.str,.slice (.st 8)]|9=>[.str,.int .i64,.str,.int .i64,.int .i64,.str,.slice (.st 8),.int .i64]
 |10=>[.int .i64,.int .i64,.slice (.st 0),.int .i64,.int .i64,.slice (.int .i64),.slice (.st 4),.slice (.st 7),.int .i64]|11=>[.int .i64,.int .i64]|12=>[.slice (.st 6),.int .i64]|13=>[.int .i64,.int .i64,.int .i64,.int .i64,.int .i64,.int .i64,.int .i64,.slice (.int .i64),.slice (.st 2),.int .u8,.int .u8,.int .u8,.int .u8,.int .u8,.int .u8,.int .u8,.int .u8,.int .u8,.int .u8,.int .u8,.int .u8,.int .u8,.int .u8,.int .u8,.int .u8]
 |14=>[.slice (.int .i64),.int .i64,.int .i64,.int .i64,.str,.int .i64,.int .i64,.str,.slice (.st 8),.int .i64,.int .i64,.int .i64]|15=>[.int .i64,.int .i64,.int .i64]|16=>[.int .i64,.int .i64,.slice (.st 0),.int .i64,.int .i64,.slice (.int .i64),.slice (.st 4),.int .i64,.int .i64]|17=>[.slice (.st 6),.int .i64]|18=>[.int .i64,.int .i64,.slice (.st 0),.int .i64,.int .i64,.slice (.int .i64),.slice (.st 4),.int .i64]
 |19=>[.slice (.st 6),.bool]|20=>[.str,.int .i64,.int .i64,.str,.bool]|21=>[.int .i64,.int .i64]|_+22=>[]
def asH:(n:Nat)->qj Fq (Yl n)->Fq n
 |0=>fun p=>(⟨p.1,p.2.1,p.2.2.1,p.2.2.2.1,p.2.2.2.2⟩:Def)
 |1=>fun p=>(⟨p.1,p.2.1,p.2.2⟩:aG)
 |2=>fun p=>(⟨p.1,p.2.1,p.2.2.1,p.2.2.2⟩:Attr)
 |3=>fun p=>(⟨p.1,p.2.1,p.2.2.1,p.2.2.2.1,p.2.2.2.2.1,p.2.2.2.2.2.1,p.2.2.2.2.2.2.1,p.2.2.2.2.2.2.2.1,p.2.2.2.2.2.2.2.2⟩:Entry)
 |4=>fun p=>(⟨⟨p.1,p.2.1,p.2.2.1,p.2.2.2.1,p.2.2.2.2.1,p.2.2.2.2.2.1,p.2.2.2.2.2.2.1,p.2.2.2.2.2.2.2.1,p.2.2.2.2.2.2.2.2.1⟩,p.2.2.2.2.2.2.2.2.2⟩:Row)
 |5=>fun p=>(⟨⟨p.1,p.2.1,p.2.2.1⟩,p.2.2.2.1,p.2.2.2.2.1,p.2.2.2.2.2.1,p.2.2.2.2.2.2⟩:Book)
 |6=>fun p=>(⟨p.1,p.2.1,p.2.2.1,p.2.2.2.1,p.2.2.2.2.1,p.2.2.2.2.2.1,p.2.2.2.2.2.2.1,p.2.2.2.2.2.2.2.1,p.2.2.2.2.2.2.2.2.1,p.2.2.2.2.2.2.2.2.2.1,p.2.2.2.2.2.2.2.2.2.2.1,p.2.2.2.2.2.2.2.2.2.2.2.1,p.2.2.2.2.2.2.2.2.2.2.2.2.1,p.2.2.2.2.2.2.2.2.2.2.2.2.2.1,p.2.2.2.2.2.2.2.2.2.2.2.2.2.2.1,p.2.2.2.2.2.2.2.2.2.2.2.2.2.2.2⟩:aC)
 |7=>fun p=>(⟨p.1,p.2.1,p.2.2.1,p.2.2.2.1,⟨p.2.2.2.2.1,p.2.2.2.2.2.1,p.2.2.2.2.2.2.1,p.2.2.2.2.2.2.2.1,p.2.2.2.2.2.2.2.2.1,p.2.2.2.2.2.2.2.2.2.1,p.2.2.2.2.2.2.2.2.2.2.1,p.2.2.2.2.2.2.2.2.2.2.2.1,p.2.2.2.2.2.2.2.2.2.2.2.2.1,p.2.2.2.2.2.2.2.2.2.2.2.2.2.1,p.2.2.2.2.2.2.2.2.2.2.2.2.2.2.1,p.2.2.2.2.2.2.2.2.2.2.2.2.2.2.2.1,p.2.2.2.2.2.2.2.2.2.2.2.2.2.2.2.2.1,p.2.2.2.2.2.2.2.2.2.2.2.2.2.2.2.2.2.1,p.2.2.2.2.2.2.2.2.2.2.2.2.2.2.2.2.2.2.1,p.2.2.2.2.2.2.2.2.2.2.2.2.2.2.2.2.2.2.2⟩⟩:Gone)
 |8=>fun p=>(⟨p.1,p.2.1,p.2.2.1,p.2.2.2.1,p.2.2.2.2.1,p.2.2.2.2.2⟩:Pred)
 |9=>fun p=>(⟨p.1,⟨p.2.1,p.2.2.1,p.2.2.2.1,p.2.2.2.2.1,p.2.2.2.2.2.1,p.2.2.2.2.2.2.1⟩,p.2.2.2.2.2.2.2⟩:Law)
 |10=>fun p=>(⟨⟨⟨p.1,p.2.1,p.2.2.1⟩,p.2.2.2.1,p.2.2.2.2.1,p.2.2.2.2.2.1,p.2.2.2.2.2.2.1⟩,p.2.2.2.2.2.2.2.1,p.2.2.2.2.2.2.2.2⟩:jO)
 |11=>fun p=>(⟨p.1,p.2⟩:Snapshot)
 |12=>fun p=>(⟨p.1,p.2⟩:jP)
 |13=>fun p=>(⟨p.1,p.2.1,p.2.2.1,p.2.2.2.1,p.2.2.2.2.1,p.2.2.2.2.2.1,p.2.2.2.2.2.2.1,p.2.2.2.2.2.2.2.1,p.2.2.2.2.2.2.2.2.1,⟨p.2.2.2.2.2.2.2.2.2.1,p.2.2.2.2.2.2.2.2.2.2.1,p.2.2.2.2.2.2.2.2.2.2.2.1,p.2.2.2.2.2.2.2.2.2.2.2.2.1,p.2.2.2.2.2.2.2.2.2.2.2.2.2.1,p.2.2.2.2.2.2.2.2.2.2.2.2.2.2.1,p.2.2.2.2.2.2.2.2.2.2.2.2.2.2.2.1,p.2.2.2.2.2.2.2.2.2.2.2.2.2.2.2.2.1,p.2.2.2.2.2.2.2.2.2.2.2.2.2.2.2.2.2.1,p.2.2.2.2.2.2.2.2.2.2.2.2.2.2.2.2.2.2.1,p.2.2.2.2.2.2.2.2.2.2.2.2.2.2.2.2.2.2.2.1,p.2.2.2.2.2.2.2.2.2.2.2.2.2.2.2.2.2.2.2.2.1,p.2.2.2.2.2.2.2.2.2.2.2.2.2.2.2.2.2.2.2.2.2.1,p.2.2.2.2.2.2.2.2.2.2.2.2.2.2.2.2.2.2.2.2.2.2.1,p.2.2.2.2.2.2.2.2.2.2.2.2.2.2.2.2.2.2.2.2.2.2.2.1,p.2.2.2.2.2.2.2.2.2.2.2.2.2.2.2.2.2.2.2.2.2.2.2.2⟩⟩:Event)
 |14=>fun p=>(⟨p.1,p.2.1,p.2.2.1,⟨p.2.2.2.1,p.2.2.2.2.1,p.2.2.2.2.2.1,p.2.2.2.2.2.2.1,p.2.2.2.2.2.2.2.1,p.2.2.2.2.2.2.2.2.1⟩,⟨p.2.2.2.2.2.2.2.2.2.1,p.2.2.2.2.2.2.2.2.2.2.1⟩,p.2.2.2.2.2.2.2.2.2.2.2⟩:Query)
 |15=>fun p=>(⟨p.1,p.2.1,p.2.2⟩:jQ)
 |16=>fun p=>(⟨⟨⟨p.1,p.2.1,p.2.2.1⟩,p.2.2.2.1,p.2.2.2.2.1,p.2.2.2.2.2.1,p.2.2.2.2.2.2.1⟩,p.2.2.2.2.2.2.2.1,p.2.2.2.2.2.2.2.2⟩:fJ)
 |17=>fun p=>(⟨p.1,p.2⟩:jR)
 |18=>fun p=>(⟨⟨⟨p.1,p.2.1,p.2.2.1⟩,p.2.2.2.1,p.2.2.2.2.1,p.2.2.2.2.2.1,p.2.2.2.2.2.2.1⟩,p.2.2.2.2.2.2.2⟩:bE)
 |19=>fun p=>(⟨p.1,p.2⟩:jS)
 |20=>fun p=>(⟨⟨p.1,p.2.1,p.2.2.1,p.2.2.2.1⟩,p.2.2.2.2⟩:jT)
 |21=>fun p=>(⟨p.1,p.2⟩:dO)
 |_+22=>fun _=>()
def asI:(n:Nat)->Fq n->qj Fq (Yl n)
 |0=>fun (x:Def)=>(x.Name,x.Kind,x.Lo,x.Hi,x.Words)
 |1=>fun (x:aG)=>(x.jM,x.kS,x.Defs)
 |2=>fun (x:Attr)=>(x.Name,x.Kind,x.N,x.S)
 |3=>fun (x:Entry)=>(x.ID,x.eu,x.gK,x.jF,x.From,x.To,x.fQ,x.Vec,x.aY)
 |4=>fun (x:Row)=>(x.Entry.ID,x.Entry.eu,x.Entry.gK,x.Entry.jF,x.Entry.From,x.Entry.To,x.Entry.fQ,x.Entry.Vec,x.Entry.aY,x.eB)
 |5=>fun (x:Book)=>(x.aG.jM,x.aG.kS,x.aG.Defs,x.aN,x.Day,x.bn,x.Rows)
 |6=>fun (x:aC)=>(x.b0,x.b1,x.b2,x.b3,x.b4,x.b5,x.b6,x.b7,x.b8,x.b9,x.b10,x.b11,x.b12,x.b13,x.b14,x.b15)
 |7=>fun (x:Gone)=>(x.ID,x.eu,x.fQ,x.eB,x.Leaf.b0,x.Leaf.b1,x.Leaf.b2,x.Leaf.b3,x.Leaf.b4,x.Leaf.b5,x.Leaf.b6,x.Leaf.b7,x.Leaf.b8,x.Leaf.b9,x.Leaf.b10,x.Leaf.b11,x.Leaf.b12,x.Leaf.b13,x.Leaf.b14,x.Leaf.b15)
 |8=>fun (x:Pred)=>(x.Op,x.Name,x.N,x.M,x.S,x.I8)
 |9=>fun (x:Law)=>(x.Name,x.Where.Op,x.Where.Name,x.Where.N,x.Where.M,x.Where.S,x.Where.I8,x.bn)
 |10=>fun (x:jO)=>(x.B.aG.jM,x.B.aG.kS,x.B.aG.Defs,x.B.aN,x.B.Day,x.B.bn,x.B.Rows,x.L,x.E)
 |11=>fun (x:Snapshot)=>(x.Day,x.aN)
 |12=>fun (x:jP)=>(x.L,x.E)
 |13=>fun (x:Event)=>(x.Kind,x.aN,x.Day,x.ID,x.gK,x.Until,x.From,x.Vec,x.aY,x.bT.b0,x.bT.b1,x.bT.b2,x.bT.b3,x.bT.b4,x.bT.b5,x.bT.b6,x.bT.b7,x.bT.b8,x.bT.b9,x.bT.b10,x.bT.b11,x.bT.b12,x.bT.b13,x.bT.b14,x.bT.b15)
 |14=>fun (x:Query)=>(x.Vec,x.K,x.Within,x.Where.Op,x.Where.Name,x.Where.N,x.Where.M,x.Where.S,x.Where.I8,x.At.Day,x.At.aN,x.Budget)
 |15=>fun (x:jQ)=>(x.ID,x.eu,x.Key)
 |16=>fun (x:fJ)=>(x.B.aG.jM,x.B.aG.kS,x.B.aG.Defs,x.B.aN,x.B.Day,x.B.bn,x.B.Rows,x.N,x.E)
 |17=>fun (x:jR)=>(x.L,x.E)
 |18=>fun (x:bE)=>(x.B.aG.jM,x.B.aG.kS,x.B.aG.Defs,x.B.aN,x.B.Day,x.B.bn,x.B.Rows,x.E)
 |19=>fun (x:jS)=>(x.l,x.short)
 |20=>fun (x:jT)=>(x.A.Name,x.A.Kind,x.A.N,x.A.S,x.Is)
 |21=>fun (x:dO)=>(x.from_,x.to)
 |_+22=>fun _=>()
def ahY:(n:Nat)->Fq n->V
 |0=>fun (x:Def)=>Def.v x
 |1=>fun (x:aG)=>aG.v x
 |2=>fun (x:Attr)=>Attr.v x
 |3=>fun (x:Entry)=>Entry.v x
 |4=>fun (x:Row)=>Row.v x
 |5=>fun (x:Book)=>Book.v x
 |6=>fun (x:aC)=>aC.v x
 |7=>fun (x:Gone)=>Gone.v x
 |8=>fun (x:Pred)=>Pred.v x
 |9=>fun (x:Law)=>Law.v x
 |10=>fun (x:jO)=>jO.v x
 |11=>fun (x:Snapshot)=>Snapshot.v x
 |12=>fun (x:jP)=>jP.v x
 |13=>fun (x:Event)=>Event.v x
 |14=>fun (x:Query)=>Query.v x
 |15=>fun (x:jQ)=>jQ.v x
 |16=>fun (x:fJ)=>fJ.v x
 |17=>fun (x:jR)=>jR.v x
 |18=>fun (x:bE)=>bE.v x
 |19=>fun (x:jS)=>jS.v x
 |20=>fun (x:jT)=>jT.v x
 |21=>fun (x:dO)=>dO.v x
 |_+22=>fun _=>.agg []
def rty:List (Nat×Ty):=[(2,.int .i64),(3,.int .i64),(4,.bool),(5,.int .u8),(6,.int .u8),(9,.str),(10,.str),(11,.str),(12,.int .u64),(21,.int .i32),(22,.slice (.st 0)),(24,.st 1),(25,.slice (.st 9)),(26,.slice (.st 13)),(27,.slice (.int .i64)),(28,.slice (.st 4)),(30,.st 5),(35,.int .i64),(39,.slice (.st 7)),(44,.st 6),(46,.st 7),(47,.slice (.st 8)),(49,.st 8),(51,.st 9),(55,.st 10),(61,.st 11),(63,.slice (.st 2)),(65,.st 3),(67,.st 4),(70,.slice (.st 6)),(74,.st 12),(80,.st 13),(83,.slice (.st 3)),(88,.st 14),(92,.slice (.st 15)),(96,.st 15),(102,.st 16),(119,.slice .str),(121,.st 0),(124,.slice (.int .u8)),(129,.st 17),(132,.slice (.st 2)),(153,.st 18),(181,.st 19),(187,.st 2),(216,.st 20),(218,.int .u32),(221,.int .u64),(231,.int .u64),(254,.slice (.st 21)),(256,.st 21),(261,.slice (.slice (.int .i64))),(263,.slice (.slice (.int .u8))),(280,.slice (.int .u32)),(283,.int .i64),(292,.int .u64),(307,.int .u8),(308,.int .u8),(311,.int .i32),(312,.int .i32)]
def zH:Vec 64:=⟨[1116352408,1899447441,3049323471,3921009573,961987163,1508970993,2453635748,2870763221,3624381080,310598401,607225278,1426881987,1925078388,2162078206,2614888103,3248222580,3835390401,4022224774,264347078,604807628,770255983,1249150122,1555081692,1996064986,2554220882,2821834349,2952996808,3210313671,3336571891,3584528711,113926993,338241895,666307205,773529912,1294757372,1396182291,1695183700,1986661051,2177026350,2456956037,2730485921,2820302411,3259730800,3345764771,3516065817,3600352804,4094571909,275423344,430227734,506948616,659060556,883997877,958139571,1322822218,1537002063,1747873779,1955562222,2024104815,2227730452,2361852424,2428436474,2756734187,3204031479,3329325298],rfl⟩
def asJ (g:Nat):Option ((k:IntKind)×(n:Nat)×Vec n):=bif Nat.ble g 1 then some ⟨.u32,64,zH⟩ else none
def R:kE:={T:=Fq,d:=rd,lf:=Yl,to:=asH,of:=asI,enc:=ahY,ty:=fun t=>look rty t,gl:=asJ}
theorem sQ:rG R where
 Ml:=fun n p=>by
  match n,p with
  |0,p=>exact rfl|1,p=>exact rfl|2,p=>exact rfl|3,p=>exact rfl|4,p=>exact rfl|5,p=>exact rfl|6,p=>exact rfl|7,p=>exact rfl|8,p=>exact rfl|9,p=>exact rfl|10,p=>exact rfl|11,p=>exact rfl|12,p=>exact rfl|13,p=>exact rfl|14,p=>exact rfl|15,p=>exact rfl|16,p=>exact rfl|17,p=>exact rfl|18,p=>exact rfl|19,p=>exact rfl|20,p=>exact rfl|21,p=>exact rfl|_+22,p=>exact rfl
 enc:=fun n x=>by
  match n,x with
  |0,x=>exact rfl|1,x=>exact rfl|2,x=>exact rfl|3,x=>exact rfl|4,x=>exact rfl|5,x=>exact rfl|6,x=>exact rfl|7,x=>exact rfl|8,x=>exact(by show Pred.v x=_;unfold Pred.v Pred.c;simp only[Pred.I9];rfl)|9,x=>exact(by show Law.v x=_;unfold Law.v Law.c;simp only[Pred.I9];rfl)|10,x=>exact rfl|11,x=>exact rfl|12,x=>exact rfl|13,x=>exact rfl|14,x=>exact(by show Query.v x=_;unfold Query.v Query.c;simp only[Pred.I9];rfl)
  |15,x=>exact rfl|16,x=>exact rfl|17,x=>exact rfl|18,x=>exact rfl|19,x=>exact rfl|20,x=>exact rfl|21,x=>exact rfl|_+22,x=>exact rfl
 leaf:=fun n=>by
  match n with
  |0=>exact rfl|1=>exact rfl|2=>exact rfl|3=>exact rfl|4=>exact rfl|5=>exact rfl|6=>exact rfl|7=>exact rfl|8=>exact rfl|9=>exact rfl|10=>exact rfl|11=>exact rfl|12=>exact rfl|13=>exact rfl|14=>exact rfl|15=>exact rfl|16=>exact rfl|17=>exact rfl|18=>exact rfl|19=>exact rfl|20=>exact rfl|21=>exact rfl|_+22=>exact rfl
 pc:=fun n x=>by
  match n,x with
  |0,x=>exact Def.pc x|1,x=>exact aG.pc x|2,x=>exact Attr.pc x|3,x=>exact Entry.pc x|4,x=>exact Row.pc x|5,x=>exact Book.pc x|6,x=>exact aC.pc x|7,x=>exact Gone.pc x|8,x=>exact Pred.pc x|9,x=>exact Law.pc x|10,x=>exact jO.pc x|11,x=>exact Snapshot.pc x|12,x=>exact jP.pc x|13,x=>exact Event.pc x|14,x=>exact Query.pc x|15,x=>exact jQ.pc x|16,x=>exact fJ.pc x|17,x=>exact jR.pc x|18,x=>exact bE.pc x|19,x=>exact jS.pc x
  |20,x=>exact jT.pc x|21,x=>exact dO.pc x|_+22,x=>exact(by simp[R,ahY,aQ,bQ])
end Sh
end
section
open Go Go.Proofs aR
namespace Sh
def wZ:List V:=[.int .u32 1116352408,.int .u32 1899447441,.int .u32 3049323471,.int .u32 3921009573,.int .u32 961987163,.int .u32 1508970993,.int .u32 2453635748,.int .u32 2870763221,.int .u32 3624381080,.int .u32 310598401,.int .u32 607225278,.int .u32 1426881987,.int .u32 1925078388,.int .u32 2162078206,.int .u32 2614888103,.int .u32 3248222580,.int .u32 3835390401,.int .u32 4022224774,.int .u32 264347078,.int .u32 604807628,.int .u32 770255983,.int .u32 1249150122,.int .u32 1555081692,.int .u32 1996064986,.int .u32 2554220882,.int .u32 2821834349,.int .u32 2952996808,.int .u32 3210313671,.int .u32 3336571891,.int .u32 3584528711,.int .u32 113926993,.int .u32 338241895,.int .u32 666307205,.int .u32 773529912,.int .u32 1294757372,.int .u32 1396182291,.int .u32 1695183700,.int .u32 1986661051,.int .u32 2177026350,.int .u32 2456956037,.int .u32 2730485921,.int .u32 2820302411,.int .u32 3259730800,.int .u32 3345764771,.int .u32 3516065817,.int .u32 3600352804,.int .u32 4094571909,.int .u32 275423344,.int .u32 430227734,.int .u32 506948616,.int .u32 659060556,.int .u32 883997877,.int .u32 958139571,.int .u32 1322822218,.int .u32 1537002063,.int .u32 1747873779,.int .u32 1955562222,.int .u32 2024104815,.int .u32 2227730452,.int .u32 2361852424,.int .u32 2428436474,.int .u32 2756734187,.int .u32 3204031479,.int .u32 3329325298]
def ahZ (g:Nat):Option (List V):=bif Nat.beq g 1 then some wZ else bif Nat.beq g 0 then some wZ else none
theorem ah0 {E E':Env}(hP:E'.P=E.P)(hg:∀g cs,E.glob g=some cs->E'.glob g=some cs){f:FuncId}{args:List V}{v:V}(h:tX E f args v):tX E' f args v:=by obtain⟨h1,h2⟩:=h;refine⟨by unfold GQ at h1⊢;rw[hP];exact h1,fun I IM w dU hl hr=>?_⟩;rw[hP];exact h2 I IM w dU ⟨hl.1,hl.2.1,fun g cs hh=>hl.2.2 g cs (hg g cs hh)⟩ hr
end Sh
end
section
open Go Go.Proofs aR
namespace Sh
set_option maxRecDepth 100000
def kL (x k:Int):Int:=lT .u32 (aH .u32 x k) (nu .u32 x (wrap .i64 (32-k)))
def Ym (a b c d:Int):Int:=lT .u32 (lT .u32 (lT .u32 (nu .u32 (wrap .u32 a) 24) (nu .u32 (wrap .u32 b) 16)) (nu .u32 (wrap .u32 c) 8)) (wrap .u32 d)
def Yn (x:List Int)(i:Int):Int:=Ym (x.getD (4*i.toNat) 0) (x.getD (4*i.toNat+1) 0) (x.getD (4*i.toNat+2) 0) (x.getD (4*i.toNat+3) 0)
def SC (w:Vec 64)(i:Int):Vec 64:=w.set i (wrap .u32 (wrap .u32 (wrap .u32 (w.at' (i-16)+eT .u32 (eT .u32 (kL (w.at' (i-15)) 7) (kL (w.at' (i-15)) 18)) (aH .u32 (w.at' (i-15)) 3))+w.at' (i-7))+
 eT .u32 (eT .u32 (kL (w.at' (i-2)) 17) (kL (w.at' (i-2)) 19)) (aH .u32 (w.at' (i-2)) 10)))
def SE (x:List Int)(w:Vec 64)(i:Int):Vec 64:=w.set i (Yn x i)
def oq {J:Type}(f:J->Int->J):Nat->Int->J->J
 |0,_,w=>w|k+1,i,w=>oq f k (i+1) (f w i)
def Fu (x:List Int):Vec 64:=oq SC 48 16 (oq (SE x) 16 0 (Vec.rep 64 0))
def ah1 (h a b c k w:Int):Int:=wrap .u32 (wrap .u32 (wrap .u32 (wrap .u32 (h+eT .u32 (eT .u32 (kL a 6) (kL a 11)) (kL a 25))+eT .u32 (jE .u32 a b) (jE .u32 (eT .u32 a 4294967295) c))+k)+w)
def asK (a b c:Int):Int:=wrap .u32 (eT .u32 (eT .u32 (kL a 2) (kL a 13)) (kL a 22)+eT .u32 (eT .u32 (jE .u32 a b) (jE .u32 a c)) (jE .u32 b c))
def MU (w:Vec 64)(s:Vec 8)(i:Int):Vec 8:=
 Vec.lit 8 [wrap .u32 (ah1 (s.at' 7) (s.at' 4) (s.at' 5) (s.at' 6) (zH.at' i) (w.at' i)+asK (s.at' 0) (s.at' 1) (s.at' 2)),s.at' 0,s.at' 1,s.at' 2,wrap .u32 (s.at' 3+ah1 (s.at' 7) (s.at' 4) (s.at' 5) (s.at' 6) (zH.at' i) (w.at' i)),s.at' 4,s.at' 5,s.at' 6]
def Yo (v s:Vec 8)(i:Int):Vec 8:=s.set i (wrap .u32 (s.at' i+v.at' i))
def zI (h:Vec 8)(x:List Int):Vec 8:=oq (Yo (oq (MU (Fu x)) 64 0 h)) 8 0 h
def AV:Nat->Vec 8->List Int->Vec 8
 |0,h,_=>h|k+1,h,l=>AV k (zI h (l.take 64)) (l.drop 64)
def C8:Vec 8:=Vec.lit 8 [1779033703,3144134277,1013904242,2773480762,1359893119,2600822924,528734635,1541459225]
def qp (l:List UInt8):List Int:=l.map fun b=>(b.toNat:Int)
def Yp (c i:Int):Int:=wrap .u8 (aH .u64 (wrap .u64 (8*c)) (wrap .i64 (56-wrap .i64 (8*i))))
def AX (c:Int):Nat->Int->List Int
 |0,_=>[]|k+1,i=>Yp c i::AX c k (i+1)
def zpad (c:Nat):Nat:=(55+64-c% 64)% 64
def w9 (c:Nat):List Int:=([128]++List.replicate (zpad c) 0)++AX (c:Nat) 8 0
def Yq (h:Vec 8)(o:Vec 32)(i:Int):Vec 32:=o.set i (wrap .u8 (aH .u32 (h.at' (wrap .i64 (Int.tdiv i 4))) (wrap .i64 (24-wrap .i64 (8*Int.tmod i 4)))))
def ah2 (h:Vec 8):Vec 32:=oq (Yq h) 32 0 (Vec.rep 32 0)
def MV (b:List Int):Vec 32:=ah2 (AV ((b.length+(1+zpad b.length+8))/64) C8 (b++w9 b.length))
def ah3 (h:Vec 32):aC:=⟨h.nth 0,h.nth 1,h.nth 2,h.nth 3,h.nth 4,h.nth 5,h.nth 6,h.nth 7,h.nth 8,h.nth 9,h.nth 10,h.nth 11,h.nth 12,h.nth 13,h.nth 14,h.nth 15⟩
def AY:Nat->Int->List Int
 |0,_=>[]|k+1,z=>if z>=128 then (z% 128+128)::AY k (z/128) else [z]
def vO (x:Int):Int:=if x<0 then 2*(-1-x)+1 else 2*x
def encI (x:Int):List Int:=AY 10 (vO x)
def fu (s:List UInt8):List Int:=encI (s.length:Nat)++qp s
def Ja (t:Int)(ls:List (List UInt8)):List Int:=[wrap .u8 t]++ls.flatMap fu
def pR (t:Int)(ls:List (List UInt8)):aC:=ah3 (MV (Ja t ls))
def nS (d:aC):List UInt8:=List.map (fun n:Int=>UInt8.ofNat n.toNat) [d.b0,d.b1,d.b2,d.b3,d.b4,d.b5,d.b6,d.b7,d.b8,d.b9,d.b10,d.b11,d.b12,d.b13,d.b14,d.b15]
def AZ:aC:=⟨0,0,0,0,0,0,0,0,0,0,0,0,0,0,0,0⟩
def qQ (l:List aC):aC:=l.getLast?.getD AZ
def C9 (node:aC×aC->Option aC)(split:Int->Option Int)(leaf:aC):Nat->Int->Int->List aC->Bool->Option (aC×(List aC×Bool))
 |0,_,_,_,_=>none|g+1,i,n,l,sh=>bif n==1 then some (leaf,(l,sh)) else (split n).bind fun k=>bif decide (i<k) then (C9 node split leaf g i k l.dropLast (sh||l.isEmpty)).bind fun r=>(node (r.1,qQ l)).map fun x=>(x,r.2)else (C9 node split leaf g (wrap .i64 (i-k)) (wrap .i64 (n-k)) l.dropLast (sh||l.isEmpty)).bind fun r=>(node (qQ l,r.1)).map fun x=>(x,r.2)
def zJ (x y:aC):Bool:=(uX Tryz.prog 44 x.v y.v).getD false
def MW (node:aC×aC->Option aC)(split:Int->Option Int)(leaf:aC)(i n:Int)(l:List aC)(root:aC):Option Bool:=bif decide (n<1)||decide (n>1099511627776)||decide (i<0)||decide (i>=n) then some false else (C9 node split leaf n.toNat i n l false).map fun r=>zJ r.1 root&& !r.2.2&& r.2.1.isEmpty
def MX (p:aC×aC):Option aC:=some (pR 31 [nS p.1,nS p.2])
def fA (n:Nat):Nat:=2^Nat.log2 (n-1)
def Da (n:Int):Option Int:=if 2<=n/\n<=2^40 then some ((fA n.toNat:Nat):Int) else none
def zK (leaf:aC)(i n:Int)(l:List aC)(root:aC):Option Bool:=if l.length<2^62 then MW MX Da leaf i n l root else none
theorem Yr (x y:aC)(h:aC.v x=aC.v y):x=y:=by
 cases x;cases y;simpa [aC.v,aC.c] using h
theorem ah4:∀l m:List aC,l.map aC.v=m.map aC.v->l=m
 | [],[],_=>rfl| [],_::_,h=>bU|_::_,[],h=>bU|x::l,y::m,h=>by simp only[iA,rX] at h;rw[Yr x y h.1,ah4 l m h.2]
def yD (leaf:aC)(i n:Int)(l:List aC)(root:aC):List V:=[leaf.v,.int .i64 i,.int .i64 n,lv aC.v l,root.v]
theorem asL {leaf Yt root root':aC}{i i' n n':Int}{l l':List aC}(h:yD leaf i n l root=yD Yt i' n' l' root'):leaf=Yt/\i=i'/\n=n'/\l=l'/\root=root':=by unfold yD at h;simp only[rX,V.int.injEq,true_and,and_true] at h;obtain⟨h1,h2,h3,h4,h5⟩:=h;have h4:V.ak .sh (l.map aC.v)=V.ak .sh (l'.map aC.v):=h4;simp only[V.ak.injEq,true_and] at h4;exact⟨Yr _ _ h1,h2,h3,ah4 _ _ h4,Yr _ _ h5⟩
section
variable (E0:Env)
def ah5 (args:List V)(v:V):Prop:=∃leaf i n l root b,args=yD leaf i n l root/\zK leaf i n l root=some b/\v= .bool b/\tX E0 70 args v
open Classical in
def Jb (args:List V):Option V:=if h:∃v,ah5 E0 args v then some h.choose else none
theorem asM {args:List V}{v:V}(h:Jb E0 args=some v):tX E0 70 args v:=by
 unfold Jb at h;split at h
 .rename_i hx;cases h;obtain⟨_,_,_,_,_,_,_,_,_,h3⟩:=hx.choose_spec;exact h3
 .cases h
theorem asN {leaf root:aC}{i n:Int}{l:List aC}{b:Bool}(hb:zK leaf i n l root=some b)(h:tX E0 70 (yD leaf i n l root) (.bool b)):Jb E0 (yD leaf i n l root)=some (.bool b):=by have hx:∃v,ah5 E0 (yD leaf i n l root) v:=⟨_,leaf,i,n,l,root,b,rfl,hb,rfl,h⟩;unfold Jb;rw[dif_pos hx];obtain⟨Yt,i',n',l',root',b',h1,h2,h3,_⟩:=hx.choose_spec;obtain⟨rfl,rfl,rfl,rfl,rfl⟩:=asL h1;rw[hb] at h2;cases h2;rw[h3]
end
end Sh
end
section
open Go Go.Proofs aR
namespace Sh
set_option maxRecDepth 100000
def asO (g d:Nat):Bool:=bif Nat.beq g 200 then bL d [24] else bif Nat.beq g 199 then bL d [24] else bif Nat.beq g 161 then bL d [32] else bif Nat.beq g 106 then bL d [5,7] else bif Nat.beq g 105 then bL d [5,10] else bif Nat.beq g 104 then bL d [4] else false
def Eg:Env:={P:=Tryz.prog,glob:=ahZ,imp:=fun _=>false,aj:=fun _=>false,mV:=fun _=>none}
def MZ (f:Nat):Option (List V->Option V):=bif Nat.beq f 70 then some (Jb Eg) else none
def E:Env:={P:=Tryz.prog,glob:=ahZ,imp:=fun f=>Nat.beq f 152||Nat.beq f 153||Nat.beq f 71||Nat.beq f 127||Nat.beq f 170||Nat.beq f 171||Nat.beq f 210||Nat.beq f 225||Nat.beq f 109||Nat.beq f 124||Nat.beq f 125||Nat.beq f 126,aj:=fun f=>Nat.beq f 146||Nat.beq f 195||Nat.beq f 199||Nat.beq f 200||Nat.beq f 36,mV:=MZ,own:=asO,y5:=fun f=>Nat.beq f 199||Nat.beq f 200,adK:=fun t=>false}
theorem uG {Z Z':ah}{loc:aR.Loc}{s:Nat}(h:Z'.obj loc=Z.obj loc):Z'.dK loc s=Z.dK loc s:=by unfold ah.dK;rw[h]
theorem asP (d:Option Nat):y7 E d=false:=Gh
theorem asQ (d:Option Nat):Aj E d=false:=Gh
attribute [go_sem] asP asQ
end Sh
end
section
open Go Go.Proofs aR
namespace Sh
def bf:IR R:=ahJ
theorem dH:qO E bf:=asn
end Sh
end
section
open Go Go.Proofs aR
namespace Sh
set_option maxRecDepth 100000
abbrev SF:List bR:=[.fE,.d (.int .i64)]
def Jc {J:Type}(k:Int):Option (List J):=if 0<=k/\k<=2^40 then some [] else none
@[irreducible] def Jd (p:bB R.T SF):Option (List Int):=Jc p.2
@[irreducible] def Je (p:bB R.T SF):Option (List Int):=Jc p.2
theorem Yu {n:Int}(h0: -(2^63)<=n)(h1:n<2^63):IntKind.i64.wrap n=n:=Ac
def Yv (sz:Nat)(v:V)(Z:ah):Prop:=v= .ak .nil []\/∃loc s cap ag cs,v= .aU loc s 0 0 cap sz ag/\Z.dK loc s=some cs
section
variable {E:Env}{S:iN}{fr:Fr}{Z:ah}{st ty:Nat}{pos:String}{bV:Array Edge}{gd:Option (Nat×Bool)}
theorem SG {d:Option Nat}{x:Operand}{t e:TypeId}(hx:fr.ev E x= .ak .nil [])(ht:lG E.P t=some e):opC E S fr Z st ⟨d,.call ⟨.builtin .cap, #[x], #[t]⟩,ty,pos,bV,gd⟩=some (.int .i64 0,fr,Z):=by
 show Option.map _ ((some t).bind fun t=>(lG E.P t).bind fun _=>match fr.ev E x with
  |.ak .nil l|.ak .full l=>some (V.int .i64 l.length,Z)|_=>none)=_
 rw[Option.bind_some,ht,hx];rfl
theorem ah6 {d:Option Nat}{x h:Operand}{t e:TypeId}{sz:Nat}(hx:fr.ev E x= .ak .nil [])(hh:fr.ev E h= .int .i64 0)(hu:E.P.underlying t=some (.slice e))(hs:dF E.P e=some sz):
 opC E S fr Z st ⟨d,.slice t x none (some h) none,ty,pos,bV,gd⟩=some (.ak .nil [],fr,Z):=by
 show Option.map _ ((kQ E.P Z t (fr.ev E x) none (some (fr.ev E h)) none).map fun v=>(v,Z))=_;rw[hx,hh];unfold kQ;rw[hu];dsimp only;rw[hs];rfl
theorem ah7 {d:Option Nat}{x h:Operand}{t e:TypeId}{sz len cap s:Nat}{loc:aR.Loc}{ag:Bool}(hx:fr.ev E x= .aU loc s 0 len cap sz ag)(hh:fr.ev E h= .int .i64 0)(hu:E.P.underlying t=some (.slice e))(hs:dF E.P e=some sz):
 opC E S fr Z st ⟨d,.slice t x none (some h) none,ty,pos,bV,gd⟩=some (.aU loc s 0 0 cap sz ag,fr,Z):=by
 show Option.map _ ((kQ E.P Z t (fr.ev E x) none (some (fr.ev E h)) none).map fun v=>(v,Z))=_;rw[hx,hh];unfold kQ;rw[hu];dsimp only;rw[hs];have:jq len cap none (some (.int .i64 0)) none=some (0,0,cap):=by unfold jq bnd pG;simp
 rw[this];simp
def ah8 (k:Int)(z:V):Nat:=0+(List.replicate k.toNat z).length
def Yw (k:Int)(z:V):List V:=(([]:List V)++List.replicate k.toNat z).flatMap V.cells
theorem ah9 {d:Nat}{x y:Operand}{t u e:TypeId}{k:Int}{sz gy:Nat}{z:V}{ag:Bool}(ho:fr.aj=true)(hx:fr.ev E x= .ak .nil [])(hy:fr.ev E y= .int .i64 k)(hu:E.P.underlying u=some (.int .i64))(h1:lG E.P t=some e)(h2:dF E.P e=some sz)(h3:wD E.P e=some gy)(h4:j5 E.P e=some ag)(h5:iM E.P e=some z)(h6:z.cells.length=sz)(h7:0<sz)(h8:(ag||sz==1)=true)(h9:bY z.cells=true)(h10:gy<=16)(k0:0<=k)(k1:k<=2^40):
 opC E S fr Z st ⟨some d,.call ⟨.builtin .append, #[x,y], #[t,u]⟩,ty,pos,bV,gd⟩=some (.aU (fr.d,E.cn d) st 0 (ah8 k z) (ah8 k z) sz ag,fr,Z.setObj (fr.d,E.cn d) st (.cells (Yw k z))):=by
 show Option.map _ ((some t).bind fun t=>((some u).bind E.P.underlying).bind fun u=>match u with
  |.int _=>ku E.P fr.aj true Z st (some (fr.d,E.cn d)) t (fr.ev E x) (fr.ev E y)|.slice _|.string=>ku E.P fr.aj false Z st (some (fr.d,E.cn d)) t (fr.ev E x) (fr.ev E y)|_=>none)=_
 rw[Option.bind_some,Option.bind_some,hu,ho,hx,hy];show Option.map _ (ku E.P true true Z st (some (fr.d,E.cn d)) t (.ak .nil []) (.int .i64 k))=_;unfold ku;rw[h1,Option.bind_some,h2,Option.bind_some,h3,Option.bind_some,h4,Option.bind_some,h5,Option.bind_some,if_pos ⟨rfl,h6,h7,h8⟩];rw[show mU Z ag sz z (.int .i64 k)=some (List.replicate k.toNat z) from (if_pos ⟨k0,RS⟩:(if 0<=k/\k<=2^47 then some (List.replicate k.toNat z) else none)=_),Option.bind_some,if_pos (by rw[List.all_replicate,h9];simp)];dsimp only;have hr:cK (([]:List V).length+(List.replicate k.toNat z).length) gy=true:=by
  unfold cK;simp only[List.length_nil,nX,List.length_replicate,aZ,decide_eq_true_eq];have hk:k.toNat<=2^40:=RS
  exact⟨eO (Nat.mul_le_mul hk h10) aL,RS⟩
 rw[if_pos ⟨hr,rfl⟩];rfl
end
theorem asR (k:Int)(h0:0<=k)(h1:k<=2^40):jd E 199 [.ak .nil [],.int .i64 k] 1 ah.init (Yv 1):=by
 have hP:E.P=Tryz.prog:=rfl;have e1:lG E.P 27=some 3:=ay
 have e2:dF E.P 3=some 1:=ay
 have e6:E.P.underlying 27=some (.slice 3):=ay
 have e7:E.P.underlying 3=some (.int .i64):=ay
 have e8:iM E.P 3=some (.int .i64 0):=ay
 have e9:j5 E.P 3=some false:=ay
 have e10:wD E.P 3=some 8:=ay
 have e3:decide (k<0)=false:=decide_eq_false RS;have e4:IntKind.i64.wrap (k-0)=k:=by rw[Int.sub_zero];exact Yu RS RS
 have e5:IntKind.i64.wrap (0-((0:Nat):Int))=0:=aL
 have hres:Tryz.f199.results.toList=[.tmp 4]:=rfl;refine jd.of (fn:=Tryz.f199) (c:=Tryz.f199.body.getD .skip) Tryz.func199 rfl ay ?_;generalize hfr:({d:=1,aj:=E.aj 199,tm:=fun i=>([.ak .nil [],.int .i64 k]:List V).getD i aJ}:Fr)=fr;have a0:fr.tm 0= .ak .nil []:=iU
 have a1:fr.tm 1= .int .i64 k:=iU
 have a2:fr.aj=true:=iU
 have a3:fr.d=1:=BD
 clear hfr;refine aD.seq (aD.region ?_);refine av.a1 ?_;refine av.nil (dG.n ?_);refine aD.seq (aD.seq (aD.region ?_));refine av.a1 ?_;refine av.a1 ?_;refine av.nil (dG.n ?_);refine aD.xZ jU ?_;refine aD.skip (dG.n ?_);refine aD.seq (aD.seq (aD.region ?_));refine av.a1 ?_;refine av.a1 ?_;refine av.o1 bC (fun S=>SG jG e1) ?_;refine av.a1 ?_;refine av.o1 bC (by intro S;simp only[go_sem,Nat.reduceBEq,Nat.reduceAdd,List.length_nil, *];with_reducible exact Is.rfl) ?_;refine av.a1 ?_;refine av.a1 ?_;refine av.a1 ?_;refine av.nil (dG.n ?_);refine aD.seq (aD.region ?_);refine av.a1 ?_;refine av.a1 ?_;refine av.nil (dG.n ?_);cases hk:decide (k>0) with
 |false=>refine aD.xZ jU ?_;refine aD.skip (dG.n (dG.n ?_));refine aD.seq (aD.region ?_);refine av.a1 ?_;refine av.a1 ?_;refine av.nil (dG.n ?_);refine aD.ret ?_;rw[hres];refine pJ.one (v0:=.ak .nil []) wm Ab (.inl rfl)|true=>refine aD.vB jU ?_;refine aD.region ?_;refine av.a1 ?_;refine av.a1 ?_;refine av.o1 bC (fun S=>SG jG e1) ?_;refine av.o1 bC (fun S=>ah6 jG jG e6 e2) ?_;refine av.a1 ?_;refine av.o1 bC (fun S=>ah9 (k:=k) jG jG jG e7 e1 e2 e10 e9 e8 rfl aL rfl rfl aL h0 h1) ?_;refine av.a1 ?_;refine av.a1 ?_;refine av.o1 bC (fun S=>ah7 PI (by simp only[go_sem,Nat.reduceBEq,List.length_nil, *];rfl) e6 e2) ?_;refine av.a1 ?_;refine av.nil (dG.n (dG.n ?_));refine aD.seq (aD.region ?_);refine av.a1 ?_;refine av.a1 ?_;refine av.nil (dG.n ?_);refine aD.ret ?_;rw[hres];refine pJ.one wm Ab (.inr ⟨_,_,_,_,Yw k (.int .i64 0),rfl,?_⟩);simp only[go_sem,Nat.reduceBEq, *]
theorem asS (k:Int)(h0:0<=k)(h1:k<=2^40):jd E 200 [.ak .nil [],.int .i64 k] 1 ah.init (Yv 1):=by
 have hP:E.P=Tryz.prog:=rfl;have e1:lG E.P 124=some 5:=ay
 have e2:dF E.P 5=some 1:=ay
 have e6:E.P.underlying 124=some (.slice 5):=ay
 have e7:E.P.underlying 3=some (.int .i64):=ay
 have e8:iM E.P 5=some (.int .u8 0):=ay
 have e9:j5 E.P 5=some false:=ay
 have e10:wD E.P 5=some 1:=ay
 have e3:decide (k<0)=false:=decide_eq_false RS;have e4:IntKind.i64.wrap (k-0)=k:=by rw[Int.sub_zero];exact Yu RS RS
 have e5:IntKind.i64.wrap (0-((0:Nat):Int))=0:=aL
 have hres:Tryz.f200.results.toList=[.tmp 4]:=rfl;refine jd.of (fn:=Tryz.f200) (c:=Tryz.f200.body.getD .skip) Tryz.func200 rfl ay ?_;generalize hfr:({d:=1,aj:=E.aj 200,tm:=fun i=>([.ak .nil [],.int .i64 k]:List V).getD i aJ}:Fr)=fr;have a0:fr.tm 0= .ak .nil []:=iU
 have a1:fr.tm 1= .int .i64 k:=iU
 have a2:fr.aj=true:=iU
 have a3:fr.d=1:=BD
 clear hfr;refine aD.seq (aD.region ?_);refine av.a1 ?_;refine av.nil (dG.n ?_);refine aD.seq (aD.seq (aD.region ?_));refine av.a1 ?_;refine av.a1 ?_;refine av.nil (dG.n ?_);refine aD.xZ jU ?_;refine aD.skip (dG.n ?_);refine aD.seq (aD.seq (aD.region ?_));refine av.a1 ?_;refine av.a1 ?_;refine av.o1 bC (fun S=>SG jG e1) ?_;refine av.a1 ?_;refine av.o1 bC (by intro S;simp only[go_sem,Nat.reduceBEq,Nat.reduceAdd,List.length_nil, *];with_reducible exact Is.rfl) ?_;refine av.a1 ?_;refine av.a1 ?_;refine av.a1 ?_;refine av.nil (dG.n ?_);refine aD.seq (aD.region ?_);refine av.a1 ?_;refine av.a1 ?_;refine av.nil (dG.n ?_);cases hk:decide (k>0) with
 |false=>refine aD.xZ jU ?_;refine aD.skip (dG.n (dG.n ?_));refine aD.seq (aD.region ?_);refine av.a1 ?_;refine av.a1 ?_;refine av.nil (dG.n ?_);refine aD.ret ?_;rw[hres];refine pJ.one (v0:=.ak .nil []) wm Ab (.inl rfl)|true=>refine aD.vB jU ?_;refine aD.region ?_;refine av.a1 ?_;refine av.a1 ?_;refine av.o1 bC (fun S=>SG jG e1) ?_;refine av.o1 bC (fun S=>ah6 jG jG e6 e2) ?_;refine av.a1 ?_;refine av.o1 bC (fun S=>ah9 (k:=k) jG jG jG e7 e1 e2 e10 e9 e8 rfl aL rfl rfl aL h0 h1) ?_;refine av.a1 ?_;refine av.a1 ?_;refine av.o1 bC (fun S=>ah7 PI (by simp only[go_sem,Nat.reduceBEq,List.length_nil, *];rfl) e6 e2) ?_;refine av.a1 ?_;refine av.nil (dG.n (dG.n ?_));refine aD.seq (aD.region ?_);refine av.a1 ?_;refine av.a1 ?_;refine av.nil (dG.n ?_);refine aD.ret ?_;rw[hres];refine pJ.one wm Ab (.inr ⟨_,_,_,_,Yw k (.int .u8 0),rfl,?_⟩);simp only[go_sem,Nat.reduceBEq, *]
theorem aia {f sz:Nat}{l:List V}{k:Int}(h:jd E f [.ak .nil [],.int .i64 k] 1 ah.init (Yv sz)):oI E f [.ak .nil [],.int .i64 k] sz []:=by
 obtain⟨n,v,Z1,h1,h2⟩:=h;refine⟨n,v,Z1,h1,fun st Z=>?_⟩;rcases h2 with rfl| ⟨loc,s,cap,ag,cs,rfl,hc⟩
 .exact .inl ⟨.nil,.inl rfl,rfl⟩
 .exact .inr (by unfold q9;dsimp only;rw[if_pos ⟨rfl,rfl⟩,hc];rfl)
theorem aib {J:Type}{k:Int}{x:List J}(h:Jc k=some x):0<=k/\k<=2^40/\x=[]:=by
 unfold Jc at h;split at h
 .rename_i hk;cases h;exact⟨hk.1,hk.2,rfl⟩
 .cases h
theorem asT:∀u p x,Jd (u,p)=some x->oI E 199 (.ak .nil []::dw R [.d (.int .i64)] p) (dB R (.int .i64)) (x.map (aO R (.int .i64))):=by intro u p x h;unfold Jd at h;obtain⟨h0,h1,rfl⟩:=aib h;exact aia (l:=[]) (asR p h0 h1)
theorem asU:∀u p x,Je (u,p)=some x->oI E 200 (.ak .nil []::dw R [.d (.int .i64)] p) (dB R (.int .u8)) (x.map (aO R (.int .u8))):=by intro u p x h;unfold Je at h;obtain⟨h0,h1,rfl⟩:=aib h;exact aia (l:=[]) (asS p h0 h1)
def Yx (_:Nat):Nat->List (iF R):=ny 200 ⟨SF,[.d (.slice (.int .u8))],Je,[],true⟩ (ny 199 ⟨SF,[.d (.slice (.int .i64))],Jd,[],true⟩ ahI)
theorem asV (n:Nat):bF E (Yx n):=ahK (ahK aso asT) asU
end Sh
end
section
end
section
namespace aR
open Go
def Env.sm (E:Env)(s:FuncId->Option (List V->Option V)):Env:={E with mV:=s}
section
variable {E:Env}{s:FuncId->Option (List V->Option V)}{S T:iN}
def Db (E:Env)(s:FuncId->Option (List V->Option V))(S T:iN):Prop:=∀f args v,lZ (E.sm s) S f args=some v->lZ E T f args=some v
theorem aic (hc:Db E s S T)(h:jw S T){d:Nat}{Z:ah}{fv:V}{args:List V}{r:V×ah}(hh:jI (E.sm s) S d Z fv args=some r):jI E T d Z fv args=some r:=by
 unfold jI at hh⊢;split at hh
 .split at hh
  .rename_i hi;have hi':E.imp _=true:=hi;simp only[hi',if_true];exact h.2 _ _ _ _ _ hh
  .rename_i hi;have hi':¬E.imp _=true:=hi;simp only[iR] at hh;obtain⟨aBe,h1,v,h2,h3⟩:=hh;simp only[hi',h1,Option.bind_some,hc _ _ _ h2];exact h3
 .exact V5 h hh
 .simp at hh
theorem asW (h:jw S T){Z:ah}{st:Nat}{fv:V}{args:List V}{r:V×ah}(hh:qE (E.sm s) S Z st fv args=some r):qE E T Z st fv args=some r:=aff (E:=E) h hh
theorem Yy (hc:Db E s S T)(h:jw S T){fr:Fr}{Z:ah}{st:Nat}{o:Oper}{r:V×Fr×ah}(hh:opC (E.sm s) S fr Z st o=some r):opC E T fr Z st o=some r:=by
 unfold opC at hh⊢;split at hh
 .rename_i c ho;simp only[ho] at hh⊢;split at hh
  .exact hh
  .rename_i f hf;split at hh
   .rename_i eP;have Yz:kX E fr o f=true:=eP;simp only[Yz,if_true];simp only[aW] at hh⊢;obtain⟨x,h1,h2⟩:=hh;exact⟨x,asW h h1,h2⟩
   rename_i eP;have Yz:¬kX E fr o f=true:=eP;simp only[Yz,if_false,bZ];simp only[aW] at hh⊢;obtain⟨x,h1,h2⟩:=hh;exact⟨x,aic hc h h1,h2⟩
  .simp at hh
 .simp at hh
 .exact hh
theorem asX (hc:Db E s S T)(h:jw S T)(all:List Oper):∀(os:List Oper)(st:Nat)(fr:Fr)(Z:ah)(r:Fr×ah),opsE (E.sm s) S all st os fr Z=some r->opsE E T all st os fr Z=some r:=by
 intro os;induction os with
 |nil=>intro st fr Z r hh;exact hh|cons o os ih=>
  intro st fr Z r hh;simp only[opsE,iR] at hh⊢;obtain⟨t,h1,h2⟩:=hh;refine⟨t,h1,?_⟩;cases t with
  |true=>simp only[if_true,iR] at h2⊢;obtain⟨x,h3,h4⟩:=h2;exact⟨x,Yy hc h h3,ih _ _ _ _ h4⟩
  |false=>simp only[bZ,if_false] at h2⊢;exact ih _ _ _ _ h2
theorem asY (hc:Db E s S T)(h:jw S T)(all:List Oper):∀(os:List Oper)(st:Nat)(fr:Fr)(Z:ah)(r:List dJ×Fr×ah),l5 (E.sm s) S all st os fr Z=some r->l5 E T all st os fr Z=some r:=by
 intro os;induction os with
 |nil=>intro st fr Z r hh;exact hh|cons o os ih=>
  intro st fr Z r hh;simp only[l5,iR] at hh⊢;obtain⟨t,h1,h2⟩:=hh;refine⟨t,h1,?_⟩;cases t with
  |true=>simp only[if_true,iR,aW] at h2⊢;obtain⟨x,h3,y,h4,h5⟩:=h2;exact⟨x,Yy hc h h3,y,ih _ _ _ _ h4,h5⟩
  |false=>simp only[bZ,if_false,aW] at h2⊢;obtain⟨y,h4,h5⟩:=h2;exact⟨y,ih _ _ _ _ h4,h5⟩
theorem asZ (hc:Db E s S T)(h:jw S T){ops:List Oper}{base i:Nat}{fr:Fr}{Z:ah}{r:Fr×ah}(hh:jc (E.sm s) S ops base i fr Z=some r):jc E T ops base i fr Z=some r:=by
 unfold jc at hh⊢;split at hh
 .exact hh
 .simp only[iR] at hh⊢;obtain⟨t,h1,h2⟩:=hh;refine⟨t,h1,?_⟩;cases t with
  |true=>simp only[if_true,aW] at h2⊢;obtain⟨x,h3,h4⟩:=h2;exact⟨x,Yy hc h h3,h4⟩
  |false=>simpa using h2
theorem as0 (hc:Db E s S T)(h:jw S T){ms:List Nat}{ops:List Oper}{base:Nat}{x y:Fr×ah}(hf:Free (E.sm s) S ms ops base x y):Free E T ms ops base x y:=by obtain⟨s',T',W,h0,hn,Ez,hloc,hr⟩:=hf;refine⟨s',T',W,h0,hn,Ez,fun i hi x hx=>?_,hr⟩;obtain⟨y,h1,h2⟩:=hloc i hi x hx;exact⟨y,asZ hc h h1,h2⟩
theorem as1 (hc:Db E s S T)(h:jw S T):∀(c:Code)(fr:Fr)(Z:ah)(r:Ex×Fr×ah),dX (E.sm s) S c fr Z=some r->dX E T c fr Z=some r:=by
 intro c;induction c with
 |region id ops dr=>
  intro fr Z r hh;simp only[dX] at hh⊢;split at hh
  .rename_i hd;simp only[hd,if_true,iR] at hh⊢;obtain⟨x,h1,h2⟩:=hh;refine⟨x,asY hc h _ _ _ _ _ _ h1,?_⟩;split at h2
   .rename_i hp;rw[if_pos hp];exact h2
   .rename_i hp;rw[if_neg hp];unfold KZ at h2⊢;split at h2
    .rename_i hf;rw[if_pos ⟨hf.1,as0 hc h hf.2⟩];exact h2
    .cases h2
  .rename_i hd;simp only[hd,bZ,if_false,aW] at hh⊢;obtain⟨x,h1,h2⟩:=hh;exact⟨x,asX hc h _ _ _ _ _ _ h1,h2⟩
 |seq a b iha ihb=>
  intro fr Z r hh;simp only[dX,iR] at hh⊢;obtain⟨⟨e,bJ,Z1⟩,h1,h2⟩:=hh;refine⟨(e,bJ,Z1),iha _ _ _ h1,?_⟩;cases e with
  |normal=>exact ihb _ _ _ h2|exit i=>exact h2|ret=>exact h2
 |cond c a b iha ihb=>
  intro fr Z r hh;simp only[dX,iR] at hh⊢;obtain⟨t,h1,h2⟩:=hh;refine⟨t,h1,?_⟩;cases t with
  |true=>simp only[if_true] at h2⊢;exact iha _ _ _ h2|false=>simp only[bZ,if_false] at h2⊢;exact ihb _ _ _ h2
 |block id c ih=>intro fr Z r hh;simp only[dX,aW] at hh⊢;obtain⟨x,h1,h2⟩:=hh;exact⟨x,ih _ _ _ h1,h2⟩
 |loop c ih=>
  intro fr Z r hh;simp only[dX,iR] at hh⊢;obtain⟨⟨e,bJ,Z1⟩,h1,h2⟩:=hh;refine⟨(e,bJ,Z1),ih _ _ _ h1,?_⟩;cases e with
  |normal=>exact h.1 _ _ _ _ h2|exit i=>exact h2|ret=>exact h2
 |rangeFunc f ps a b iha ihb=>
  intro fr Z r hh;simp only[dX] at hh⊢;split at hh
  .rename_i hf;rw[if_pos (by exact hf)];simp only[iR] at hh⊢;obtain⟨x,h1,h2⟩:=hh;exact⟨x,aic hc h h1,h2⟩
  .simp at hh
 |scope c ih=>intro fr Z r hh;simp only[dX] at hh⊢;exact ih _ _ _ hh|_=>intro fr Z r hh;simpa [dX] using hh
theorem as2 (h:jw S T){f:FuncId}{args:List V}{d:Nat}{Z:ah}{r:V×ah}(hh:qF (E.sm s) S f args d Z=some r):qF E T f args d Z=some r:=afg (E:=E) h hh
theorem as3 {M:Nat}(hs:∀f g,s f=some g->∀args v,g args=some v->lZ E (bH E M) f args=some v)(hn:∀f,s f=none->E.mV f=none):∀n,jw (bH (E.sm s) n) (bH E (n+M)):=by
 have pure:∀n,jw (bH (E.sm s) n) (bH E (n+M))->Db E s (bH (E.sm s) n) (bH E (n+M)):=by
  intro n h f args v hv;unfold lZ at hv;cases hf:(E.sm s).mV f with
  |some g=>rw[hf] at hv;exact Ce (jk (Nat.le_add_left M n)) (hs f g hf args v hv)|none=>rw[hf] at hv;simp only[iR] at hv;obtain⟨x,h1,h2⟩:=hv;unfold lZ;rw[hn f hf];simp only[h.2 _ _ _ _ _ h1,Option.bind_some];exact h2
 intro n;induction n with
 |zero=>exact⟨(fun _ _ _ _ h=>bU),(fun _ _ _ _ _ h=>bU)⟩
 |succ n ih=>rw[Nat.succ_add];exact⟨fun c fr Z r hh=>as1 (pure n ih) ih c fr Z r hh,fun f args d Z r hh=>as2 ih hh⟩
theorem as4 {M:Nat}(hs:∀f g,s f=some g->∀args v,g args=some v->lZ E (bH E M) f args=some v)(hn:∀f,s f=none->E.mV f=none){f:FuncId}{args:List V}{v:V}{n:Nat}(hf:s f=none)(h:lZ (E.sm s) (bH (E.sm s) n) f args=some v):Pure E f args v:=by refine⟨n+M,?_⟩;unfold lZ at h;rw[show (E.sm s).mV f=none from hf] at h;simp only[iR] at h;obtain⟨x,h1,h2⟩:=h;unfold lZ;rw[hn f hf];simp only[(as3 hs hn n).2 _ _ _ _ _ h1,Option.bind_some];exact h2
end
end aR
end
