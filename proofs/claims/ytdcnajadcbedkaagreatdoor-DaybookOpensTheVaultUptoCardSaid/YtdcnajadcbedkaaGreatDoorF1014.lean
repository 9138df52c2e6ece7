import Derived.Lib.Bytealg
import Derived.Lib.BytesEntry
import Derived.Lib.LazyBuf
import Derived.Lib.Walk
import Derived.Test.YtdcnajadcbedkaaGreatDoorF1012
import Derived.Test.YtdcnajadcbedkaaGreatDoorF1013
set_option linter.all false
noncomputable section
open Go.IntKind (wrap)
section
open Go Go.Proofs aQ
namespace Sh
set_option maxRecDepth 100000
def FK:Nat->Type
 |0=>au|1=>Seal|2=>Mark|3=>Root|4=>Key|5=>kW|6=>kX|7=>Def|8=>aM|9=>Attr|10=>Entry|11=>Row|12=>Book|13=>iG|14=>Event|15=>Snapshot|16=>gU|17=>jQ|18=>cB|19=>kY|20=>kZ|21=>kD|22=>dX|_+23=>Unit
def rd:(n:Nat)->FK n
 |0=>(⟨0,0,0,0,0,0,0,0,0,0,0,0,0,0,0,0⟩:au)|1=>(⟨0,0,0,0,0,0,0,0,0,0,0,0,0,0,0,0⟩:Seal)|2=>(⟨⟨0,0,0,0,0,0,0,0,0,0,0,0,0,0,0,0⟩,⟨0,0,0,0,0,0,0,0,0,0,0,0,0,0,0,0⟩,0⟩:Mark)|3=>(⟨0,0,0,0,⟨0,0,0,0,0,0,0,0,0,0,0,0,0,0,0,0⟩,⟨0,0,0,0,0,0,0,0,0,0,0,0,0,0,0,0⟩,[],⟨0,0,0,0,0,0,0,0,0,0,0,0,0,0,0,0⟩,0,⟨0,0,0,0,0,0,0,0,0,0,0,0,0,0,0,0⟩,0,0,⟨0,0,0,0,0,0,0,0,0,0,0,0,0,0,0,0⟩⟩:Root)|4=>(⟨0,0,[],0,0⟩:Key)|5=>(⟨⟨0,0,0,0,⟨0,0,0,0,0,0,0,0,0,0,0,0,0,0,0,0⟩,⟨0,0,0,0,0,0,0,0,0,0,0,0,0,0,0,0⟩,[],⟨0,0,0,0,0,0,0,0,0,0,0,0,0,0,0,0⟩,0,⟨0,0,0,0,0,0,0,0,0,0,0,0,0,0,0,0⟩,0,0,⟨0,0,0,0,0,0,0,0,0,0,0,0,0,0,0,0⟩⟩,0⟩:kW)
 |6=>(⟨[]⟩:kX)|7=>(⟨[],0,0,0,[]⟩:Def)|8=>(⟨0,0,[]⟩:aM)|9=>(⟨[],0,0,[]⟩:Attr)|10=>(⟨0,0,0,0,0,0,0,[],[]⟩:Entry)|11=>(⟨⟨0,0,0,0,0,0,0,[],[]⟩,0⟩:Row)|12=>(⟨⟨0,0,[]⟩,0,0,[],[]⟩:Book)|13=>(⟨0,[],0⟩:iG)|14=>(⟨0,0,0,0,0,0,0,[],[],⟨0,0,0,0,0,0,0,0,0,0,0,0,0,0,0,0⟩⟩:Event)|15=>(⟨0,0⟩:Snapshot)|16=>(⟨⟨⟨0,0,[]⟩,0,0,[],[]⟩,0,0⟩:gU)|17=>(⟨[],0⟩:jQ)|18=>(⟨⟨⟨0,0,[]⟩,0,0,[],[]⟩,0⟩:cB)|19=>(⟨⟨0,0,[],0,0⟩,0⟩:kY)|20=>(⟨[],false⟩:kZ)
 |21=>(⟨⟨0,0,0,0,0,0,0,0,0,0,0,0,0,0,0,0⟩,false⟩:kD)|22=>(⟨0,0⟩:dX)|_+23=>()
def Y2:Nat->List Ty
 |0=>[.int .u8,.int .u8,.int .u8,.int .u8,.int .u8,.int .u8,.int .u8,.int .u8,.int .u8,.int .u8,.int .u8,.int .u8,.int .u8,.int .u8,.int .u8,.int .u8]|1=>[.int .u8,.int .u8,.int .u8,.int .u8,.int .u8,.int .u8,.int .u8,.int .u8,.int .u8,.int .u8,.int .u8,.int .u8,.int .u8,.int .u8,.int .u8,.int .u8]|2=>[.int .u8,.int .u8,.int .u8,.int .u8,.int .u8,.int .u8,.int .u8,.int .u8,.int .u8,.int .u8,.int .u8,.int .u8,.int .u8,.int .u8,.int .u8,.int .u8,.int .u8,.int .u8,.int .u8,.int .u8,.int .u8,.int .u8,.int .u8,.int .u8,.int .u8,.int .u8,.int .u8,.int .u8,.int .u8,.int .u8,.int .u8,.int .u8,.int .i64]
 |3=>[.int .i64,.int .i64,.int .i64,.int .i64,.int .u8,.int .u8,.int .u8,.int .u8,.int .u8,.int .u8,.int .u8,.int .u8,.int .u8,.int .u8,.int .u8,.int .u8,.int .u8,.int .u8,.int .u8,.int .u8,.int .u8,.int .u8,.int .u8,.int .u8,.int .u8,.int .u8,.int .u8,.int .u8,.int .u8,.int .u8,.int .u8,.int .u8,.int .u8,.int .u8,.int .u8,.int .u8,.slice (.st 2),.int .u8,.int .u8,.int .u8,.int .u8,.int .u8,.int .u8,.int .u8,.int .u8,.int .u8,.int .u8,.int .u8,.int .u8,.int .u8,.int .u8,.int .u8,.int .u8,.int .i64,.int .u8,.int .u8,.int .u8,.int .u8,.int .u8,.int .u8,.int .u8,.int .u8,.int .u8,.int .u8,.int .u8,.int .u8,.int .u8,.int .u8,.int .u8,.int .u8,.int .i64,.int .i64,.int .u8,.int .u8,.int .u8,.int .u8,.int .u8,.int .u8,.int .u8,.int .u8,.int .u8,.int .u8,.int .u8,.int .u8,.int .u8,.int .u8,.int .u8,.int .u8]
 |4=>[.int .i64,.int .i64,.str,.int .i64,.int .i64]|5=>[.int .i64,.int .i64,.int .i64,.int .i64,.int .u8,.int .u8,.int .u8,.int .u8,.int .u8,.int .u8,.int .u8,.int .u8,.int .u8,.int .u8,.int .u8,.int .u8,.int .u8,.int .u8,.int .u8,.int .u8,.int .u8,.int .u8,.int .u8,.int .u8,.int .u8,.int .u8,.int .u8,.int .u8,.int .u8,.int .u8,.int .u8,.int .u8,.int .u8,.int .u8,.int .u8,.int .u8,.slice (.st 2),.int .u8,.int .u8,.int .u8,.int .u8,.int .u8,.int .u8,.int .u8,.int .u8,.int .u8,.int .u8,.int .u8,.int .u8,.int .u8,.int .u8,.int .u8,.int .u8,.int .i64,.int .u8,.int .u8,.int .u8,.int .u8,.int .u8,.int .u8,.int .u8,.int .u8,.int .u8,.int .u8,.int .u8,.int .u8,.int .u8,.int .u8,.int .u8,.int .u8,.int .i64,.int .i64,.int .u8,.int .u8,.int .u8,.int .u8,.int .u8,.int .u8,.int .u8,.int .u8,.int .u8,.int .u8,.int .u8,.int .u8,.int .u8,.int .u8,.int .u8,.int .u8,.int .i64]
 |6=>[.slice (.st 3)]|7=>[.str,.int .i64,.int .i64,.int .i64,.slice .str]|8=>[.int .i64,.int .i64,.slice (.st 7)]|9=>[.str,.int .i64,.int .i64,.str]|10=>[.int .i64,.int .i64,.int .i64,.int .i64,.int .i64,.int .i64,.int .i64,.slice (.int .i64),.slice (.st 9)]|11=>[.int .i64,.int .i64,.int .i64,.int .i64,.int .i64,.int .i64,.int .i64,.slice (.int .i64),.slice (.st 9),.int .i64]|12=>[.int .i64,.int .i64,.slice (.st 7),.int .i64,.int .i64,.slice (.int .i64),.slice (.st 11)]
 |13=>[.int .i64,.slice (.st 0),.int .i64]|14=>[.int .i64,.int .i64,.int .i64,.int .i64,.int .i64,.int .i64,.int .i64,.slice (.int .i64),.slice (.st 9),.int .u8,.int .u8,.int .u8,.int .u8,.int .u8,.int .u8,.int .u8,.int .u8,.int .u8,.int .u8,.int .u8,.int .u8,.int .u8,.int .u8,.int .u8,.int .u8]|15=>[.int .i64,.int .i64]|16=>[.int .i64,.int .i64,.slice (.st 7),.int .i64,.int .i64,.slice (.int .i64),.slice (.st 11),.int .i64,.int .i64]
 |17=>[.slice (.st 0),.int .i64]|18=>[.int .i64,.int .i64,.slice (.st 7),.int .i64,.int .i64,.slice (.int .i64),.slice (.st 11),.int .i64]|19=>[.int .i64,.int .i64,.str,.int .i64,.int .i64,.int .i64]|20=>[.slice (.st 0),.bool]|21=>[.int .u8,.int .u8,.int .u8,.int .u8,.int .u8,.int .u8,.int .u8,.int .u8,.int .u8,.int .u8,.int .u8,.int .u8,.int .u8,.int .u8,.int .u8,.int .u8,.bool]|22=>[.int .i64,.int .i64]
 |_+23=>[]
abbrev zO {T:Type}(q:Int×Int×Int×Int×Int×Int×Int×Int×Int×Int×Int×Int×Int×Int×Int×Int×T):au:=⟨q.1,q.2.1,q.2.2.1,q.2.2.2.1,q.2.2.2.2.1,q.2.2.2.2.2.1,q.2.2.2.2.2.2.1,q.2.2.2.2.2.2.2.1,q.2.2.2.2.2.2.2.2.1,q.2.2.2.2.2.2.2.2.2.1,q.2.2.2.2.2.2.2.2.2.2.1,q.2.2.2.2.2.2.2.2.2.2.2.1,q.2.2.2.2.2.2.2.2.2.2.2.2.1,q.2.2.2.2.2.2.2.2.2.2.2.2.2.1,q.2.2.2.2.2.2.2.2.2.2.2.2.2.2.1,q.2.2.2.2.2.2.2.2.2.2.2.2.2.2.2.1⟩
abbrev yM {T:Type}(q:Int×Int×Int×Int×Int×Int×Int×Int×Int×Int×Int×Int×Int×Int×Int×Int×T):T:=q.2.2.2.2.2.2.2.2.2.2.2.2.2.2.2.2
abbrev avS {T:Type}(q:Int×Int×Int×Int×Int×Int×Int×Int×Int×Int×Int×Int×Int×Int×Int×Int×T):Seal:=⟨q.1,q.2.1,q.2.2.1,q.2.2.2.1,q.2.2.2.2.1,q.2.2.2.2.2.1,q.2.2.2.2.2.2.1,q.2.2.2.2.2.2.2.1,q.2.2.2.2.2.2.2.2.1,q.2.2.2.2.2.2.2.2.2.1,q.2.2.2.2.2.2.2.2.2.2.1,q.2.2.2.2.2.2.2.2.2.2.2.1,q.2.2.2.2.2.2.2.2.2.2.2.2.1,q.2.2.2.2.2.2.2.2.2.2.2.2.2.1,q.2.2.2.2.2.2.2.2.2.2.2.2.2.2.1,q.2.2.2.2.2.2.2.2.2.2.2.2.2.2.2.1⟩
abbrev avT (q:Int×Int×Int×Int×Int×Int×Int×Int×Int×Int×Int×Int×Int×Int×Int×Int):Seal:=⟨q.1,q.2.1,q.2.2.1,q.2.2.2.1,q.2.2.2.2.1,q.2.2.2.2.2.1,q.2.2.2.2.2.2.1,q.2.2.2.2.2.2.2.1,q.2.2.2.2.2.2.2.2.1,q.2.2.2.2.2.2.2.2.2.1,q.2.2.2.2.2.2.2.2.2.2.1,q.2.2.2.2.2.2.2.2.2.2.2.1,q.2.2.2.2.2.2.2.2.2.2.2.2.1,q.2.2.2.2.2.2.2.2.2.2.2.2.2.1,q.2.2.2.2.2.2.2.2.2.2.2.2.2.2.1,q.2.2.2.2.2.2.2.2.2.2.2.2.2.2.2⟩
def avU:(n:Nat)->qB FK (Y2 n)->FK n
 |0=>fun p=>(⟨p.1,p.2.1,p.2.2.1,p.2.2.2.1,p.2.2.2.2.1,p.2.2.2.2.2.1,p.2.2.2.2.2.2.1,p.2.2.2.2.2.2.2.1,p.2.2.2.2.2.2.2.2.1,p.2.2.2.2.2.2.2.2.2.1,p.2.2.2.2.2.2.2.2.2.2.1,p.2.2.2.2.2.2.2.2.2.2.2.1,p.2.2.2.2.2.2.2.2.2.2.2.2.1,p.2.2.2.2.2.2.2.2.2.2.2.2.2.1,p.2.2.2.2.2.2.2.2.2.2.2.2.2.2.1,p.2.2.2.2.2.2.2.2.2.2.2.2.2.2.2⟩:au)
 |1=>fun p=>(⟨p.1,p.2.1,p.2.2.1,p.2.2.2.1,p.2.2.2.2.1,p.2.2.2.2.2.1,p.2.2.2.2.2.2.1,p.2.2.2.2.2.2.2.1,p.2.2.2.2.2.2.2.2.1,p.2.2.2.2.2.2.2.2.2.1,p.2.2.2.2.2.2.2.2.2.2.1,p.2.2.2.2.2.2.2.2.2.2.2.1,p.2.2.2.2.2.2.2.2.2.2.2.2.1,p.2.2.2.2.2.2.2.2.2.2.2.2.2.1,p.2.2.2.2.2.2.2.2.2.2.2.2.2.2.1,p.2.2.2.2.2.2.2.2.2.2.2.2.2.2.2⟩:Seal)
 |2=>fun p=>let a:=yM p;let b:=yM a;(⟨zO p,zO a,b⟩:Mark)
 |3=>fun p=>let b:=p.2.2.2.2;let a:=yM b;let c:=yM a;let e:=c.2;let d:=yM e;let g:=d.2;let f:=yM g;(⟨p.1,p.2.1,p.2.2.1,p.2.2.2.1,zO b,zO a,c.1,zO e,d.1,zO g,f.1,f.2.1,avT (f.2.2)⟩:Root)
 |4=>fun p=>(⟨p.1,p.2.1,p.2.2.1,p.2.2.2.1,p.2.2.2.2⟩:Key)
 |5=>fun p=>let b:=p.2.2.2.2;let a:=yM b;let c:=yM a;let e:=c.2;let d:=yM e;let g:=d.2;let f:=yM g;let i:=f.2.2;let h:=yM i;(⟨⟨p.1,p.2.1,p.2.2.1,p.2.2.2.1,zO b,zO a,c.1,zO e,d.1,zO g,f.1,f.2.1,avS i⟩,h⟩:kW)
 |6=>fun p=>(⟨p⟩:kX)
 |7=>fun p=>(⟨p.1,p.2.1,p.2.2.1,p.2.2.2.1,p.2.2.2.2⟩:Def)
 |8=>fun p=>(⟨p.1,p.2.1,p.2.2⟩:aM)
 |9=>fun p=>(⟨p.1,p.2.1,p.2.2.1,p.2.2.2⟩:Attr)
 |10=>fun p=>(⟨p.1,p.2.1,p.2.2.1,p.2.2.2.1,p.2.2.2.2.1,p.2.2.2.2.2.1,p.2.2.2.2.2.2.1,p.2.2.2.2.2.2.2.1,p.2.2.2.2.2.2.2.2⟩:Entry)
 |11=>fun p=>(⟨⟨p.1,p.2.1,p.2.2.1,p.2.2.2.1,p.2.2.2.2.1,p.2.2.2.2.2.1,p.2.2.2.2.2.2.1,p.2.2.2.2.2.2.2.1,p.2.2.2.2.2.2.2.2.1⟩,p.2.2.2.2.2.2.2.2.2⟩:Row)
 |12=>fun p=>(⟨⟨p.1,p.2.1,p.2.2.1⟩,p.2.2.2.1,p.2.2.2.2.1,p.2.2.2.2.2.1,p.2.2.2.2.2.2⟩:Book)
 |13=>fun p=>(⟨p.1,p.2.1,p.2.2⟩:iG)
 |14=>fun p=>(⟨p.1,p.2.1,p.2.2.1,p.2.2.2.1,p.2.2.2.2.1,p.2.2.2.2.2.1,p.2.2.2.2.2.2.1,p.2.2.2.2.2.2.2.1,p.2.2.2.2.2.2.2.2.1,⟨p.2.2.2.2.2.2.2.2.2.1,p.2.2.2.2.2.2.2.2.2.2.1,p.2.2.2.2.2.2.2.2.2.2.2.1,p.2.2.2.2.2.2.2.2.2.2.2.2.1,p.2.2.2.2.2.2.2.2.2.2.2.2.2.1,p.2.2.2.2.2.2.2.2.2.2.2.2.2.2.1,p.2.2.2.2.2.2.2.2.2.2.2.2.2.2.2.1,p.2.2.2.2.2.2.2.2.2.2.2.2.2.2.2.2.1,p.2.2.2.2.2.2.2.2.2.2.2.2.2.2.2.2.2.1,p.2.2.2.2.2.2.2.2.2.2.2.2.2.2.2.2.2.2.1,p.2.2.2.2.2.2.2.2.2.2.2.2.2.2.2.2.2.2.2.1,p.2.2.2.2.2.2.2.2.2.2.2.2.2.2.2.2.2.2.2.2.1,p.2.2.2.2.2.2.2.2.2.2.2.2.2.2.2.2.2.2.2.2.2.1,p.2.2.2.2.2.2.2.2.2.2.2.2.2.2.2.2.2.2.2.2.2.2.1,p.2.2.2.2.2.2.2.2.2.2.2.2.2.2.2.2.2.2.2.2.2.2.2.1,p.2.2.2.2.2.2.2.2.2.2.2.2.2.2.2.2.2.2.2.2.2.2.2.2⟩⟩:Event)
 |15=>fun p=>(⟨p.1,p.2⟩:Snapshot)
 |16=>fun p=>(⟨⟨⟨p.1,p.2.1,p.2.2.1⟩,p.2.2.2.1,p.2.2.2.2.1,p.2.2.2.2.2.1,p.2.2.2.2.2.2.1⟩,p.2.2.2.2.2.2.2.1,p.2.2.2.2.2.2.2.2⟩:gU)
 |17=>fun p=>(⟨p.1,p.2⟩:jQ)
 |18=>fun p=>(⟨⟨⟨p.1,p.2.1,p.2.2.1⟩,p.2.2.2.1,p.2.2.2.2.1,p.2.2.2.2.2.1,p.2.2.2.2.2.2.1⟩,p.2.2.2.2.2.2.2⟩:cB)
 |19=>fun p=>(⟨⟨p.1,p.2.1,p.2.2.1,p.2.2.2.1,p.2.2.2.2.1⟩,p.2.2.2.2.2⟩:kY)
 |20=>fun p=>(⟨p.1,p.2⟩:kZ)
 |21=>fun p=>(⟨⟨p.1,p.2.1,p.2.2.1,p.2.2.2.1,p.2.2.2.2.1,p.2.2.2.2.2.1,p.2.2.2.2.2.2.1,p.2.2.2.2.2.2.2.1,p.2.2.2.2.2.2.2.2.1,p.2.2.2.2.2.2.2.2.2.1,p.2.2.2.2.2.2.2.2.2.2.1,p.2.2.2.2.2.2.2.2.2.2.2.1,p.2.2.2.2.2.2.2.2.2.2.2.2.1,p.2.2.2.2.2.2.2.2.2.2.2.2.2.1,p.2.2.2.2.2.2.2.2.2.2.2.2.2.2.1,p.2.2.2.2.2.2.2.2.2.2.2.2.2.2.2.1⟩,p.2.2.2.2.2.2.2.2.2.2.2.2.2.2.2.2⟩:kD)
 |22=>fun p=>(⟨p.1,p.2⟩:dX)
 |_+23=>fun _=>()
def avV:(n:Nat)->FK n->qB FK (Y2 n)
 |0=>fun (x:au)=>(x.b0,x.b1,x.b2,x.b3,x.b4,x.b5,x.b6,x.b7,x.b8,x.b9,x.b10,x.b11,x.b12,x.b13,x.b14,x.b15)
 |1=>fun (x:Seal)=>(x.b0,x.b1,x.b2,x.b3,x.b4,x.b5,x.b6,x.b7,x.b8,x.b9,x.b10,x.b11,x.b12,x.b13,x.b14,x.b15)
 |2=>fun (x:Mark)=>(x.jP.b0,x.jP.b1,x.jP.b2,x.jP.b3,x.jP.b4,x.jP.b5,x.jP.b6,x.jP.b7,x.jP.b8,x.jP.b9,x.jP.b10,x.jP.b11,x.jP.b12,x.jP.b13,x.jP.b14,x.jP.b15,x.jZ.b0,x.jZ.b1,x.jZ.b2,x.jZ.b3,x.jZ.b4,x.jZ.b5,x.jZ.b6,x.jZ.b7,x.jZ.b8,x.jZ.b9,x.jZ.b10,x.jZ.b11,x.jZ.b12,x.jZ.b13,x.jZ.b14,x.jZ.b15,x.Count)
 |3=>fun (x:Root)=>(x.Tw,x.bN,x.Day,x.Floor,x.eY.b0,x.eY.b1,x.eY.b2,x.eY.b3,x.eY.b4,x.eY.b5,x.eY.b6,x.eY.b7,x.eY.b8,x.eY.b9,x.eY.b10,x.eY.b11,x.eY.b12,x.eY.b13,x.eY.b14,x.eY.b15,x.aM.b0,x.aM.b1,x.aM.b2,x.aM.b3,x.aM.b4,x.aM.b5,x.aM.b6,x.aM.b7,x.aM.b8,x.aM.b9,x.aM.b10,x.aM.b11,x.aM.b12,x.aM.b13,x.aM.b14,x.aM.b15,x.Marks,x.Gone.b0,x.Gone.b1,x.Gone.b2,x.Gone.b3,x.Gone.b4,x.Gone.b5,x.Gone.b6,x.Gone.b7,x.Gone.b8,x.Gone.b9,x.Gone.b10,x.Gone.b11,x.Gone.b12,x.Gone.b13,x.Gone.b14,x.Gone.b15,x.Tx,x.eT.b0,x.eT.b1,x.eT.b2,x.eT.b3,x.eT.b4,x.eT.b5,x.eT.b6,x.eT.b7,x.eT.b8,x.eT.b9,x.eT.b10,x.eT.b11,x.eT.b12,x.eT.b13,x.eT.b14,x.eT.b15,x.Nl,x.Bd,x.Seal.b0,x.Seal.b1,x.Seal.b2,x.Seal.b3,x.Seal.b4,x.Seal.b5,x.Seal.b6,x.Seal.b7,x.Seal.b8,x.Seal.b9,x.Seal.b10,x.Seal.b11,x.Seal.b12,x.Seal.b13,x.Seal.b14,x.Seal.b15)
 |4=>fun (x:Key)=>(x.Tz,x.Bd,x.TA,x.From,x.To)
 |5=>fun (x:kW)=>(x.R.Tw,x.R.bN,x.R.Day,x.R.Floor,x.R.eY.b0,x.R.eY.b1,x.R.eY.b2,x.R.eY.b3,x.R.eY.b4,x.R.eY.b5,x.R.eY.b6,x.R.eY.b7,x.R.eY.b8,x.R.eY.b9,x.R.eY.b10,x.R.eY.b11,x.R.eY.b12,x.R.eY.b13,x.R.eY.b14,x.R.eY.b15,x.R.aM.b0,x.R.aM.b1,x.R.aM.b2,x.R.aM.b3,x.R.aM.b4,x.R.aM.b5,x.R.aM.b6,x.R.aM.b7,x.R.aM.b8,x.R.aM.b9,x.R.aM.b10,x.R.aM.b11,x.R.aM.b12,x.R.aM.b13,x.R.aM.b14,x.R.aM.b15,x.R.Marks,x.R.Gone.b0,x.R.Gone.b1,x.R.Gone.b2,x.R.Gone.b3,x.R.Gone.b4,x.R.Gone.b5,x.R.Gone.b6,x.R.Gone.b7,x.R.Gone.b8,x.R.Gone.b9,x.R.Gone.b10,x.R.Gone.b11,x.R.Gone.b12,x.R.Gone.b13,x.R.Gone.b14,x.R.Gone.b15,x.R.Tx,x.R.eT.b0,x.R.eT.b1,x.R.eT.b2,x.R.eT.b3,x.R.eT.b4,x.R.eT.b5,x.R.eT.b6,x.R.eT.b7,x.R.eT.b8,x.R.eT.b9,x.R.eT.b10,x.R.eT.b11,x.R.eT.b12,x.R.eT.b13,x.R.eT.b14,x.R.eT.b15,x.R.Nl,x.R.Bd,x.R.Seal.b0,x.R.Seal.b1,x.R.Seal.b2,x.R.Seal.b3,x.R.Seal.b4,x.R.Seal.b5,x.R.Seal.b6,x.R.Seal.b7,x.R.Seal.b8,x.R.Seal.b9,x.R.Seal.b10,x.R.Seal.b11,x.R.Seal.b12,x.R.Seal.b13,x.R.Seal.b14,x.R.Seal.b15,x.E)
 |6=>fun (x:kX)=>(x.akf)
 |7=>fun (x:Def)=>(x.Name,x.Kind,x.Lo,x.Hi,x.Words)
 |8=>fun (x:aM)=>(x.j3,x.lY,x.Defs)
 |9=>fun (x:Attr)=>(x.Name,x.Kind,x.N,x.S)
 |10=>fun (x:Entry)=>(x.ID,x.iT,x.fM,x.iF,x.From,x.To,x.jo,x.Vec,x.aX)
 |11=>fun (x:Row)=>(x.Entry.ID,x.Entry.iT,x.Entry.fM,x.Entry.iF,x.Entry.From,x.Entry.To,x.Entry.jo,x.Entry.Vec,x.Entry.aX,x.gN)
 |12=>fun (x:Book)=>(x.aM.j3,x.aM.lY,x.aM.Defs,x.bN,x.Day,x.gy,x.Rows)
 |13=>fun (x:iG)=>(x.At,x.Path,x.E)
 |14=>fun (x:Event)=>(x.Kind,x.bN,x.Day,x.ID,x.fM,x.Until,x.From,x.Vec,x.aX,x.bE.b0,x.bE.b1,x.bE.b2,x.bE.b3,x.bE.b4,x.bE.b5,x.bE.b6,x.bE.b7,x.bE.b8,x.bE.b9,x.bE.b10,x.bE.b11,x.bE.b12,x.bE.b13,x.bE.b14,x.bE.b15)
 |15=>fun (x:Snapshot)=>(x.Day,x.bN)
 |16=>fun (x:gU)=>(x.B.aM.j3,x.B.aM.lY,x.B.aM.Defs,x.B.bN,x.B.Day,x.B.gy,x.B.Rows,x.N,x.E)
 |17=>fun (x:jQ)=>(x.L,x.E)
 |18=>fun (x:cB)=>(x.B.aM.j3,x.B.aM.lY,x.B.aM.Defs,x.B.bN,x.B.Day,x.B.gy,x.B.Rows,x.E)
 |19=>fun (x:kY)=>(x.K.Tz,x.K.Bd,x.K.TA,x.K.From,x.K.To,x.E)
 |20=>fun (x:kZ)=>(x.l,x.short)
 |21=>fun (x:kD)=>(x.D.b0,x.D.b1,x.D.b2,x.D.b3,x.D.b4,x.D.b5,x.D.b6,x.D.b7,x.D.b8,x.D.b9,x.D.b10,x.D.b11,x.D.b12,x.D.b13,x.D.b14,x.D.b15,x.Ok)
 |22=>fun (x:dX)=>(x.from_,x.to)
 |_+23=>fun _=>()
def aki:(n:Nat)->FK n->V
 |0=>fun (x:au)=>au.v x
 |1=>fun (x:Seal)=>Seal.v x
 |2=>fun (x:Mark)=>Mark.v x
 |3=>fun (x:Root)=>Root.v x
 |4=>fun (x:Key)=>Key.v x
 |5=>fun (x:kW)=>kW.v x
 |6=>fun (x:kX)=>kX.v x
 |7=>fun (x:Def)=>Def.v x
 |8=>fun (x:aM)=>aM.v x
 |9=>fun (x:Attr)=>Attr.v x
 |10=>fun (x:Entry)=>Entry.v x
 |11=>fun (x:Row)=>Row.v x
 |12=>fun (x:Book)=>Book.v x
 |13=>fun (x:iG)=>iG.v x
 |14=>fun (x:Event)=>Event.v x
 |15=>fun (x:Snapshot)=>Snapshot.v x
 |16=>fun (x:gU)=>gU.v x
 |17=>fun (x:jQ)=>jQ.v x
 |18=>fun (x:cB)=>cB.v x
 |19=>fun (x:kY)=>kY.v x
 |20=>fun (x:kZ)=>kZ.v x
 |21=>fun (x:kD)=>kD.v x
 |22=>fun (x:dX)=>dX.v x
 |_+23=>fun _=>.agg []
def rty:List (Nat×Ty):=[(2,.int .i64),(3,.int .i64),(4,.bool),(5,.int .u8),(6,.int .u8),(9,.str),(10,.str),(11,.str),(12,.int .u64),(21,.int .i32),(23,.st 0),(24,.slice (.st 2)),(25,.st 1),(27,.st 3),(29,.st 4),(30,.slice (.st 4)),(34,.int .i64),(38,.st 5),(46,.slice (.st 3)),(49,.st 6),(57,.slice (.st 7)),(59,.st 8),(60,.slice (.st 14)),(61,.slice (.int .i64)),(62,.slice (.st 9)),(64,.st 10),(65,.slice (.st 0)),(66,.slice (.st 11)),(68,.st 12),(79,.st 13),(89,.st 11),(91,.st 14),(94,.slice (.int .u8)),(100,.st 15),(102,.slice (.st 10)),(108,.st 16),(112,.st 2),(116,.slice .str),(132,.st 9),(140,.st 17),(160,.st 18),(167,.int .u32),(170,.int .u64),(184,.st 19),(187,.st 7),(192,.int .u64),(202,.st 20),(207,.st 21),(224,.slice (.slice .str)),(231,.slice (.slice (.int .i64))),(233,.slice (.slice (.int .u8))),(237,.int .i64),(252,.slice (.st 22)),(254,.st 22),(260,.slice (.int .u32)),(265,.int .u64),(289,.int .u8),(290,.int .u8),(293,.int .i32),(294,.int .i32)]
def xu:Vec 64:=⟨[1116352408,1899447441,3049323471,3921009573,961987163,1508970993,2453635748,2870763221,3624381080,310598401,607225278,1426881987,1925078388,2162078206,2614888103,3248222580,3835390401,4022224774,264347078,604807628,770255983,1249150122,1555081692,1996064986,2554220882,2821834349,2952996808,3210313671,3336571891,3584528711,113926993,338241895,666307205,773529912,1294757372,1396182291,1695183700,1986661051,2177026350,2456956037,2730485921,2820302411,3259730800,3345764771,3516065817,3600352804,4094571909,275423344,430227734,506948616,659060556,883997877,958139571,1322822218,1537002063,1747873779,1955562222,2024104815,2227730452,2361852424,2428436474,2756734187,3204031479,3329325298],rfl⟩
def avW (g:Nat):Option ((k:IntKind)×(n:Nat)×Vec n):=bif Nat.beq g 1||Nat.beq g 2 then some ⟨.u32,64,xu⟩ else none
def R:jV:={T:=FK,d:=rd,lf:=Y2,to:=avU,of:=avV,enc:=aki,ty:=fun t=>look rty t,gl:=avW}
theorem p8:rX R where
 MS:=fun n p=>by
  match n,p with
  |0,p=>exact rfl|1,p=>exact rfl|2,p=>exact rfl|3,p=>exact rfl|4,p=>exact rfl|5,p=>exact rfl|6,p=>exact rfl|7,p=>exact rfl|8,p=>exact rfl|9,p=>exact rfl|10,p=>exact rfl|11,p=>exact rfl|12,p=>exact rfl|13,p=>exact rfl|14,p=>exact rfl|15,p=>exact rfl|16,p=>exact rfl|17,p=>exact rfl|18,p=>exact rfl|19,p=>exact rfl|20,p=>exact rfl|21,p=>exact rfl|22,p=>exact rfl|_+23,p=>exact rfl
 enc:=fun n x=>by
  match n,x with
  |0,x=>exact rfl|1,x=>exact rfl|2,x=>exact rfl|3,x=>exact rfl|4,x=>exact rfl|5,x=>exact rfl|6,x=>exact rfl|7,x=>exact rfl|8,x=>exact rfl|9,x=>exact rfl|10,x=>exact rfl|11,x=>exact rfl|12,x=>exact rfl|13,x=>exact rfl|14,x=>exact rfl|15,x=>exact rfl|16,x=>exact rfl|17,x=>exact rfl|18,x=>exact rfl|19,x=>exact rfl|20,x=>exact rfl|21,x=>exact rfl|22,x=>exact rfl|_+23,x=>exact rfl
 leaf:=fun n=>by
  match n with
  |0=>exact rfl|1=>exact rfl|2=>exact rfl|3=>exact rfl|4=>exact rfl|5=>exact rfl|6=>exact rfl|7=>exact rfl|8=>exact rfl|9=>exact rfl|10=>exact rfl|11=>exact rfl|12=>exact rfl|13=>exact rfl|14=>exact rfl|15=>exact rfl|16=>exact rfl|17=>exact rfl|18=>exact rfl|19=>exact rfl|20=>exact rfl|21=>exact rfl|22=>exact rfl|_+23=>exact rfl
 pc:=fun n x=>by
  match n,x with
  |0,x=>exact au.pc x|1,x=>exact Seal.pc x|2,x=>exact Mark.pc x|3,x=>exact Root.pc x|4,x=>exact Key.pc x|5,x=>exact kW.pc x|6,x=>exact kX.pc x|7,x=>exact Def.pc x|8,x=>exact aM.pc x|9,x=>exact Attr.pc x|10,x=>exact Entry.pc x|11,x=>exact Row.pc x|12,x=>exact Book.pc x|13,x=>exact iG.pc x|14,x=>exact Event.pc x|15,x=>exact Snapshot.pc x|16,x=>exact gU.pc x|17,x=>exact jQ.pc x|18,x=>exact cB.pc x|19,x=>exact kY.pc x
  |20,x=>exact kZ.pc x|21,x=>exact kD.pc x|22,x=>exact dX.pc x|_+23,x=>exact(by simp[R,aki,aR,bY])
abbrev Nn (x:au):List (aA R.T):=[.int .u8 x.b0,.int .u8 x.b1,.int .u8 x.b2,.int .u8 x.b3,.int .u8 x.b4,.int .u8 x.b5,.int .u8 x.b6,.int .u8 x.b7,.int .u8 x.b8,.int .u8 x.b9,.int .u8 x.b10,.int .u8 x.b11,.int .u8 x.b12,.int .u8 x.b13,.int .u8 x.b14,.int .u8 x.b15]
def Np (x y:au):Bool:=(x.b0==y.b0)&& ((x.b1==y.b1)&& ((x.b2==y.b2)&& ((x.b3==y.b3)&& ((x.b4==y.b4)&& ((x.b5==y.b5)&& ((x.b6==y.b6)&& ((x.b7==y.b7)&& ((x.b8==y.b8)&& ((x.b9==y.b9)&& ((x.b10==y.b10)&& ((x.b11==y.b11)&& ((x.b12==y.b12)&& ((x.b13==y.b13)&& ((x.b14==y.b14)&& ((x.b15==y.b15)&& true)))))))))))))))
end Sh
end
section
open Go Go.Proofs aQ
namespace Sh
def xw:List V:=xu.l.map (V.int .u32)
def akj (g:Nat):Option (List V):=bif Nat.beq g 1 then some xw else bif Nat.beq g 2 then some xw else none
end Sh
end
section
open Go Go.Proofs aQ
namespace Sh
set_option maxRecDepth 100000
set_option maxHeartbeats 1000000
theorem avX (a b:Value)(A B:ByteArray)(w:World)(ha:(Extern.Bytes.bytesOf a).run Tryz.prog w= .ok A w)(hb:(Extern.Bytes.bytesOf b).run Tryz.prog w= .ok B w):
 Calls Tryz.prog 116 #[a,b] w fun e w'=>e= .returned (.int .i64 (Lib.compareBytes A.data.toList B.data.toList))/\w'=w:=by
 have hc:(Extern.BytealgCompare.compare #[a,b]).run Tryz.prog w= .ok (.int .i64 (Lib.compareBytes A.data.toList B.data.toList)) w:=by change Sem.run Tryz.prog (do pure (goInt (Extern.BytealgCompare.cmp (<-Extern.Bytes.bytesOf a) (<-Extern.Bytes.bytesOf b)))) w=_;simp only[Sem.run_bind,Sem.run_pure,Result.andThen,ha,hb];rw[Lib.cmp_eq];rfl
 go_enter Tryz.func116,Tryz.ntmps116
 go_wp2
 rw[run_callFunc_extern Tryz.func168 av av av (e:=Extern.BytealgCompare.compare) av,hc];simp only[Result.andThen];rw[Oper.upon_value]
 go_wp2
 go_ret
 exact⟨rfl,rfl⟩
def Bf:List V->Option (List Int)
 | []=>some []|.int .u8 n::l=>(Bf l).map fun xs=>n::xs
 |_=>none
def Nq (a b:List Int):Int:=Lib.compareBytes (Lib.bytesOf a) (Lib.bytesOf b)
def TB:List V->Option V
 | [.ak _ a,.ak _ b]=>(Bf a).bind fun xs=>(Bf b).map fun ys=>.int .i64 (Nq xs ys)
 |_=>none
theorem akk:∀{l:List V}{xs:List Int},Bf l=some xs->l=xs.map (V.int .u8)
 | [],_,h=>by cases h;rfl|.int k n::l,xs,h=>by
  cases k<;>try (cases h;done)
  simp only[Bf,aY] at h;obtain⟨ys,h1,rfl⟩:=h;rw[akk h1];rfl
theorem Y3:∀xs:List Int,Bf (xs.map (V.int .u8))=some xs
 | []=>rfl|x::xs=>by simp only[iH,Bf,Y3 xs];rfl
theorem akl {K:bA}{T:Nat->Nat}{w:World}{c:Cap}{l:List V}{cv:Value}{xs:List Int}(h:Rel K T w (.ak c l) cv)(hx:Bf l=some xs):∃B,(Extern.Bytes.bytesOf cv).run Tryz.prog w= .ok B w/\B.data.toList=Lib.bytesOf xs:=by
 have hl:=akk hx;cases h with
 |gq _ a ha hc=>
  have:xs=[]:=by cases xs with
   |nil=>rfl|cons x xs=>cases hl
  subst this;cases a with
  |none=>exact⟨.empty,rfl,rfl⟩|some a=>exact⟨.empty,rfl,rfl⟩
 |ak _ _ b o n cap val hle hn hcell hrel hc=>
  have hlen:l.length=xs.length:=by rw[hl];simp
  have hget:∀i,i<l.length->l.getD i aP= .int .u8 (xs.getD i 0):=fun i hi=>by rw[hl] at hi⊢;simp at hi;simp[List.getD,hi]
  have hn1:∀i,i<l.length->n=1:=fun i hi=>by have:=hn i hi;rw[hget i hi] at this;exact this.symm
  have hc1:∀j x,xs[j]? =some x->w.cell? (Addr.add (at_ b o) j)=some (.int .u8 x):=fun j x hj=>by
   have hjl:j<l.length:=by rw[hlen];exact(uX.1 hj).1
   have n1:=hn1 j hjl;have h1:=(hcell j 0 hjl RS).1;have h2:=hrel j 0 hjl RS;rw[hget j hjl] at h2;have e0:xs.getD j 0=x:=by simp[List.getD,hj]
   rw[e0] at h2;have h3:Rel K T w (.int .u8 x) (val j 0):=h2;generalize val j 0=avY at h1 h3;cases h3;have e:Addr.add (at_ b o) j=at_ b (o+j*n+0):=by
    unfold Addr.add at_;rw[n1];split
    .simp_all
    .simp
   rw[e];exact h1
  have:=Lib.run_loadBytesX (P:=Tryz.prog) w xs (at_ b o) .empty hc1;rw[<-hlen] at this;refine⟨_,this,aD⟩
theorem avZ {E:Env}(hP:E.P=Tryz.prog){args:List V}{v:V}(h:TB args=some v):rT E 116 args v:=by
 refine⟨?_,fun I IM w dO _ hr=>?_⟩
 .unfold Ck;rw[hP];exact⟨_,Tryz.f116.body.getD .skip,Tryz.func116,av⟩
 .unfold TB at h;split at h
  .rename_i c1 a c2 b;rw[iP] at h;obtain⟨xs,h1,h⟩:=h;rw[aY] at h;obtain⟨ys,h2,rfl⟩:=h;obtain⟨hlen,hrel⟩:=hr;have h2':dO.size=2:=hlen.symm;obtain⟨x,y,rfl⟩:∃x y,dO= #[x,y]:=by
    rcases dO with ⟨l⟩
    match l,h2' with
    | [x,y],_=>exact⟨x,y,rfl⟩
   .have r0:Rel (bA.lend I IM) (fun _=>0) w (.ak c1 a) x:=hrel 0 aD;have r1:Rel (bA.lend I IM) (fun _=>0) w (.ak c2 b) y:=hrel 1 aD;obtain⟨A,ha,ea⟩:=akl r0 h1;obtain⟨B,hb,eb⟩:=akl r1 h2;rw[hP];refine callsIn_wide.2 ((avX x y A B w ha hb).mono ?_);rintro e w' ⟨rfl,rfl⟩;rw[ea,eb];exact⟨Go.RowKit.Below.refl _ _,.int _ _⟩
  .cases h
def akm:Value:=.agg #[.int .u8 0,.int .u8 0,.int .u8 0,.int .u8 0,.int .u8 0,.int .u8 0,.int .u8 0,.int .u8 0,.int .u8 0,.int .u8 0,.int .u8 0,.int .u8 0,.int .u8 0,.int .u8 0,.int .u8 0,.int .u8 0,.int .u8 0,.int .u8 0,.int .u8 0,.int .u8 0,.int .u8 0,.int .u8 0,.int .u8 0,.int .u8 0,.int .u8 0,.int .u8 0,.int .u8 0,.int .u8 0,.int .u8 0,.int .u8 0,.int .u8 0,.int .u8 0,.int .i64 0]
theorem av0:(Tryz.prog.info? 112).map (fun i=>(i.zero,i.size,i.bytes))=some (some akm,33,40):=av
open Go.RowKit Go.Lib in
theorem av1 (n c:Nat)(w:World):Calls Tryz.prog 61 #[.slice none n c] w fun e w'=>e= .returned (.slice none 0 0)/\w'=w:=by
 have hu:Tryz.prog.underlying 24=some (.slice 112):=akg;have q22:∀(w:World)(a:Option Addr)(n c:Nat),(binOp .eql 24 (.slice a n c) (.slice none 0 0)).run Tryz.prog w= .ok (.bool a.isNone) w:=fun w a n c=>_root_.Go.run_eql_slice_nil w _ _ a n c hu
 go_enter Tryz.func61,Tryz.ntmps61
 go_wp2
 go_ret
 exact⟨rfl,rfl⟩
open Go.RowKit Go.Lib in
theorem av2 (ad:Addr)(c:Nat)(w:World):Calls Tryz.prog 61 #[.slice (some ad) 0 c] w fun e w'=>∃v',e= .returned v'/\w'.ownsRow w.heap.size 112 33 v' 0 []/\Below w.heap.size w w':=by
 have hu:Tryz.prog.underlying 24=some (.slice 112):=akg;obtain⟨i0,hi,hz0,hz1,hz2⟩:=info_parts av0;have q22:∀(w:World)(a:Option Addr)(n c:Nat),(binOp .eql 24 (.slice a n c) (.slice none 0 0)).run Tryz.prog w= .ok (.bool a.isNone) w:=fun w a n c=>_root_.Go.run_eql_slice_nil w _ _ a n c hu
 go_enter Tryz.func61,Tryz.ntmps61
 go_wp2_with (at_builtin;refine wpList_append_own _ rfl _ _ 24 rfl w.heap.size 112 i0 akm 33 40 hu hi hz0 hz1 hz2 rfl aK _ _ _ rfl (World.ownsRow_made w #[] 0 (iR _) (pR _) rfl) ad 0 c [] rfl rfl (by intro j u hj;simp at hj) (by intro u hu;simp at hu) (by unfold maxLen;omega) RS aD ?_)
 intro v' w1 hown hgrow hnil
 go_wp2
 go_ret
 exact⟨v',rfl,by simpa using hown,((Below.refl _ w).alloc (iR _) _).grown hgrow aD (by intro k hk;simp[Value.ownBlock] at hk;omega)⟩
def Y4:List V->Option V
 | [.ak .sh []]=>some (.ak .sh [])|_=>none
theorem akn {E E':Env}(hP:E'.P=E.P)(hg:∀g cs,E.glob g=some cs->E'.glob g=some cs){f:FuncId}{args:List V}{v:V}(h:rT E f args v):rT E' f args v:=by obtain⟨h1,h2⟩:=h;refine⟨by unfold Ck at h1⊢;rw[hP];exact h1,fun I IM w dO hl hr=>?_⟩;rw[hP];exact h2 I IM w dO ⟨hl.1,hl.2.1,fun g cs hh=>hl.2.2 g cs (hg g cs hh)⟩ hr
theorem av3 {E E1:Env}(hP:E.P=Tryz.prog)(hE1:o8 E1)(hP1:E1.P=Tryz.prog)(hg:∀g cs,E1.glob g=some cs->E.glob g=some cs)(ho:E1.aj 61=false)(hs:E1.mP 61=none)(hz:∀d,yh E1 d=false)(aFR:∀d,zm E1 d=false){args:List V}{v:V}(h:Y4 args=some v):rT E 61 args v:=by
 unfold Y4 at h;split at h
 .cases h;refine⟨?_,fun I IM w dO _ hr=>?_⟩
  .unfold Ck;rw[hP];exact⟨_,Tryz.f61.body.getD .skip,Tryz.func61,av⟩
  .obtain⟨hlen,hrel⟩:=hr;have h2':dO.size=1:=hlen.symm;obtain⟨x,rfl⟩:∃x,dO= #[x]:=by
    rcases dO with ⟨l⟩
    match l,h2' with
    | [x],_=>exact⟨x,rfl⟩
   have r0:Rel (bA.lend I IM) (fun _=>0) w (.ak .sh []) x:=hrel 0 aD;rw[hP];have fin:∀(ad:Addr)(c:Nat),CallsIn Fence.wide 0 Tryz.prog 61 #[.slice (some ad) 0 c] w (agW I IM w (.ak .sh [])):=fun ad c=>by
    refine callsIn_wide.2 ((av2 ad c w).mono ?_);rintro e w' ⟨v',rfl,⟨_,h3⟩,h4⟩;refine⟨h4,?_⟩;rcases h3 with ⟨rfl,_⟩| ⟨g,cap,cur,rfl,_⟩
    .exact .gq _ _ (by intro e;cases e) trivial
    .exact .ak .sh [] g 0 0 cap (fun _ _=>undef) (pR _) (fun i hi=>by simp at hi) (fun i j hi=>by simp at hi) (fun i j hi=>by simp at hi) trivial
   generalize hll:([]:List V)=ll at r0;generalize hcc:V.ak .sh ll=avY at r0;cases r0<;>cases hcc
   .rename_i a _ _;cases a with
    |none=>refine callsIn_wide.2 ((av1 0 0 w).mono ?_);rintro e w' ⟨rfl,rfl⟩;exact⟨Go.RowKit.Below.refl _ _,.gq _ _ (by intro e;cases e) trivial⟩
    |some ad=>exact fin ad 0
   .subst hll;exact fin _ _
 .cases h
end Sh
end
section
open Go Go.Proofs aQ
namespace Sh
set_option maxRecDepth 100000
def lg (x k:Int):Int:=mJ .u32 (gu .u32 x k) (jg .u32 x (wrap .i64 (32-k)))
def Y5 (a b c d:Int):Int:=mJ .u32 (mJ .u32 (mJ .u32 (jg .u32 (wrap .u32 a) 24) (jg .u32 (wrap .u32 b) 16)) (jg .u32 (wrap .u32 c) 8)) (wrap .u32 d)
def Y6 (x:List Int)(i:Int):Int:=Y5 (x.getD (4*i.toNat) 0) (x.getD (4*i.toNat+1) 0) (x.getD (4*i.toNat+2) 0) (x.getD (4*i.toNat+3) 0)
def TD (w:Vec 64)(i:Int):Vec 64:=w.set i (wrap .u32 (wrap .u32 (wrap .u32 (w.at' (i-16)+dS .u32 (dS .u32 (lg (w.at' (i-15)) 7) (lg (w.at' (i-15)) 18)) (gu .u32 (w.at' (i-15)) 3))+w.at' (i-7))+
 dS .u32 (dS .u32 (lg (w.at' (i-2)) 17) (lg (w.at' (i-2)) 19)) (gu .u32 (w.at' (i-2)) 10)))
def TF (x:List Int)(w:Vec 64)(i:Int):Vec 64:=w.set i (Y6 x i)
def oD {U:Type}(f:U->Int->U):Nat->Int->U->U
 |0,_,w=>w|k+1,i,w=>oD f k (i+1) (f w i)
def FL (x:List Int):Vec 64:=oD TD 48 16 (oD (TF x) 16 0 (Vec.rep 64 0))
def ako (h a b c k w:Int):Int:=wrap .u32 (wrap .u32 (wrap .u32 (wrap .u32 (h+dS .u32 (dS .u32 (lg a 6) (lg a 11)) (lg a 25))+dS .u32 (iJ .u32 a b) (iJ .u32 (dS .u32 a 4294967295) c))+k)+w)
def av4 (a b c:Int):Int:=wrap .u32 (dS .u32 (dS .u32 (lg a 2) (lg a 13)) (lg a 22)+dS .u32 (dS .u32 (iJ .u32 a b) (iJ .u32 a c)) (iJ .u32 b c))
def Nr (w:Vec 64)(s:Vec 8)(i:Int):Vec 8:=
 Vec.lit 8 [wrap .u32 (ako (s.at' 7) (s.at' 4) (s.at' 5) (s.at' 6) (xu.at' i) (w.at' i)+av4 (s.at' 0) (s.at' 1) (s.at' 2)),s.at' 0,s.at' 1,s.at' 2,wrap .u32 (s.at' 3+ako (s.at' 7) (s.at' 4) (s.at' 5) (s.at' 6) (xu.at' i) (w.at' i)),s.at' 4,s.at' 5,s.at' 6]
def Y7 (v s:Vec 8)(i:Int):Vec 8:=s.set i (wrap .u32 (s.at' i+v.at' i))
def zP (h:Vec 8)(x:List Int):Vec 8:=oD (Y7 (oD (Nr (FL x)) 64 0 h)) 8 0 h
def Bg:Nat->Vec 8->List Int->Vec 8
 |0,h,_=>h|k+1,h,l=>Bg k (zP h (l.take 64)) (l.drop 64)
def Dh:Vec 8:=Vec.lit 8 [1779033703,3144134277,1013904242,2773480762,1359893119,2600822924,528734635,1541459225]
def qH (l:List UInt8):List Int:=l.map fun b=>(b.toNat:Int)
def Y8 (c i:Int):Int:=wrap .u8 (gu .u64 (wrap .u64 (8*c)) (wrap .i64 (56-wrap .i64 (8*i))))
def Bh (c:Int):Nat->Int->List Int
 |0,_=>[]|k+1,i=>Y8 c i::Bh c k (i+1)
def zpad (c:Nat):Nat:=(55+64-c% 64)% 64
def xA (c:Nat):List Int:=([128]++List.replicate (zpad c) 0)++Bh (c:Nat) 8 0
def Ns (h:Vec 8)(o:Vec 32)(i:Int):Vec 32:=o.set i (wrap .u8 (gu .u32 (h.at' (wrap .i64 (Int.tdiv i 4))) (wrap .i64 (24-wrap .i64 (8*Int.tmod i 4)))))
def Y9 (h:Vec 8):Vec 32:=oD (Ns h) 32 0 (Vec.rep 32 0)
def FM (b:List Int):Vec 32:=Y9 (Bg ((b.length+(1+zpad b.length+8))/64) Dh (b++xA b.length))
def TG (h:Vec 32):au:=⟨h.nth 0,h.nth 1,h.nth 2,h.nth 3,h.nth 4,h.nth 5,h.nth 6,h.nth 7,h.nth 8,h.nth 9,h.nth 10,h.nth 11,h.nth 12,h.nth 13,h.nth 14,h.nth 15⟩
def Bj:Nat->Int->List Int
 |0,_=>[]|k+1,z=>if z>=128 then (z% 128+128)::Bj k (z/128) else [z]
def vU (x:Int):Int:=if x<0 then 2*(-1-x)+1 else 2*x
def encI (x:Int):List Int:=Bj 10 (vU x)
def fA (s:List UInt8):List Int:=encI (s.length:Nat)++qH s
def Jm (t:Int)(ls:List (List UInt8)):List Int:=[wrap .u8 t]++ls.flatMap fA
def j4 (t:Int)(ls:List (List UInt8)):au:=TG (FM (Jm t ls))
def dV (d:au):List UInt8:=List.map (fun n:Int=>UInt8.ofNat n.toNat) [d.b0,d.b1,d.b2,d.b3,d.b4,d.b5,d.b6,d.b7,d.b8,d.b9,d.b10,d.b11,d.b12,d.b13,d.b14,d.b15]
def vV:au:=⟨0,0,0,0,0,0,0,0,0,0,0,0,0,0,0,0⟩
def rA (l:List au):au:=l.getLast?.getD vV
def Di (node:au×au->Option au)(split:Int->Option Int)(leaf:au):Nat->Int->Int->List au->Bool->Option (au×(List au×Bool))
 |0,_,_,_,_=>none|g+1,i,n,l,sh=>bif n==1 then some (leaf,(l,sh)) else (split n).bind fun k=>bif decide (i<k) then (Di node split leaf g i k l.dropLast (sh||l.isEmpty)).bind fun r=>(node (r.1,rA l)).map fun x=>(x,r.2)else (Di node split leaf g (wrap .i64 (i-k)) (wrap .i64 (n-k)) l.dropLast (sh||l.isEmpty)).bind fun r=>(node (rA l,r.1)).map fun x=>(x,r.2)
def xB (x y:au):Bool:=(vk Tryz.prog 23 x.v y.v).getD false
def Nt (node:au×au->Option au)(split:Int->Option Int)(leaf:au)(i n:Int)(l:List au)(root:au):Option Bool:=bif decide (n<1)||decide (n>1099511627776)||decide (i<0)||decide (i>=n) then some false else (Di node split leaf n.toNat i n l false).map fun r=>xB r.1 root&& !r.2.2&& r.2.1.isEmpty
def Nu (p:au×au):Option au:=some (j4 31 [dV p.1,dV p.2])
def eH (n:Nat):Nat:=2^Nat.log2 (n-1)
def Dj (n:Int):Option Int:=if 2<=n/\n<=2^40 then some ((eH n.toNat:Nat):Int) else none
def Bl (leaf:au)(i n:Int)(l:List au)(root:au):Option Bool:=if l.length<2^62 then Nt Nu Dj leaf i n l root else none
theorem Za (x y:au)(h:au.v x=au.v y):x=y:=by
 cases x;cases y;simpa [au.v,au.c] using h
theorem akp:∀l m:List au,l.map au.v=m.map au.v->l=m
 | [],[],_=>rfl| [],_::_,h=>cZ|_::_,[],h=>cZ|x::l,y::m,h=>by simp only[iH,sJ] at h;rw[Za x y h.1,akp l m h.2]
def zQ (leaf:au)(i n:Int)(l:List au)(root:au):List V:=[leaf.v,.int .i64 i,.int .i64 n,lv au.v l,root.v]
theorem av5 {leaf Zb root root':au}{i i' n n':Int}{l l':List au}(h:zQ leaf i n l root=zQ Zb i' n' l' root'):leaf=Zb/\i=i'/\n=n'/\l=l'/\root=root':=by unfold zQ at h;simp only[sJ,V.int.injEq,true_and,and_true] at h;obtain⟨h1,h2,h3,h4,h5⟩:=h;have h4:V.ak .sh (l.map au.v)=V.ak .sh (l'.map au.v):=h4;simp only[V.ak.injEq,true_and] at h4;exact⟨Za _ _ h1,h2,h3,akp _ _ h4,Za _ _ h5⟩
section
variable (E0:Env)
def akq (args:List V)(v:V):Prop:=∃leaf i n l root b,args=zQ leaf i n l root/\Bl leaf i n l root=some b/\v= .bool b/\rT E0 100 args v
open Classical in
def Jo (args:List V):Option V:=if h:∃v,akq E0 args v then some h.choose else none
theorem av6 {args:List V}{v:V}(h:Jo E0 args=some v):rT E0 100 args v:=by
 unfold Jo at h;split at h
 .rename_i hx;cases h;obtain⟨_,_,_,_,_,_,_,_,_,h3⟩:=hx.choose_spec;exact h3
 .cases h
theorem av7 {leaf root:au}{i n:Int}{l:List au}{b:Bool}(hb:Bl leaf i n l root=some b)(h:rT E0 100 (zQ leaf i n l root) (.bool b)):Jo E0 (zQ leaf i n l root)=some (.bool b):=by have hx:∃v,akq E0 (zQ leaf i n l root) v:=⟨_,leaf,i,n,l,root,b,rfl,hb,rfl,h⟩;unfold Jo;rw[dif_pos hx];obtain⟨Zb,i',n',l',root',b',h1,h2,h3,_⟩:=hx.choose_spec;obtain⟨rfl,rfl,rfl,rfl,rfl⟩:=av5 h1;rw[hb] at h2;cases h2;rw[h3]
end
end Sh
end
section
open Go Go.Proofs aQ
namespace Sh
set_option maxRecDepth 100000
def av8 (g d:Nat):Bool:=bif Nat.beq g 1000000 then bM d [38] else bif Nat.beq g 175 then bM d [24] else bif Nat.beq g 174 then bM d [24] else bif Nat.beq g 167 then bM d [24] else bif Nat.beq g 134 then bM d [32] else bif Nat.beq g 117 then bM d [4] else bif Nat.beq g 93 then bM d [5,7] else bif Nat.beq g 90 then bM d [5,10] else false
def Eg:Env:={P:=Tryz.prog,glob:=akj,imp:=fun _=>false,aj:=fun _=>false,mP:=fun _=>none}
def TH (f:Nat):Option (List V->Option V):=bif Nat.beq f 100 then some (Jo Eg) else bif Nat.beq f 116 then some TB else bif Nat.beq f 61 then some Y4 else none
def E:Env:={P:=Tryz.prog,glob:=akj,imp:=fun f=>Nat.beq f 118||Nat.beq f 97||Nat.beq f 138||Nat.beq f 177||Nat.beq f 178||Nat.beq f 179||Nat.beq f 181||Nat.beq f 182||Nat.beq f 183||Nat.beq f 184||Nat.beq f 206||Nat.beq f 208||Nat.beq f 209||Nat.beq f 210||Nat.beq f 218||Nat.beq f 131||Nat.beq f 145||Nat.beq f 146||Nat.beq f 147,aj:=fun f=>Nat.beq f 43||Nat.beq f 163||Nat.beq f 196||Nat.beq f 174||Nat.beq f 175||Nat.beq f 167,mP:=TH,own:=av8,zl:=fun f=>Nat.beq f 174||Nat.beq f 175||Nat.beq f 167||Nat.beq f 149,af9:=fun t=>Nat.beq t 68}
theorem uO {Y Y':ah}{loc:aQ.Loc}{s:Nat}(h:Y'.obj loc=Y.obj loc):Y'.dQ loc s=Y.dQ loc s:=by unfold ah.dQ;rw[h]
theorem av9 (d:Option Nat):yh E d=false:=BQ
theorem awc (d:Option Nat):zm E d=false:=BQ
attribute [go_sem] av9 awc
end Sh
end
section
open Go Go.Proofs aQ
namespace Sh
def bn:IR R:=aj3
theorem dW:ng E bn:=avB
end Sh
end
section
open Go Go.Proofs aQ
namespace Sh
set_option maxRecDepth 100000
abbrev Jp:List bO:=[.fQ,.d (.int .i64)]
def FN {U:Type}(k:Int):Option (List U):=if 0<=k/\k<=2^40 then some [] else none
@[irreducible] def Jq (p:aV R.T Jp):Option (List Int):=FN p.2
@[irreducible] def Jr (p:aV R.T Jp):Option (List Int):=FN p.2
@[irreducible] def Js (p:aV R.T Jp):Option (List (List UInt8)):=FN p.2
theorem TI {n:Int}(h0: -(2^63)<=n)(h1:n<2^63):IntKind.i64.wrap n=n:=Ai
def TJ (sz:Nat)(v:V)(Y:ah):Prop:=v= .ak .nil []\/∃loc s cap ag cs,v= .aS loc s 0 0 cap sz ag/\Y.dQ loc s=some cs
section
variable {E:Env}{S:iW}{fr:Fr}{Y:ah}{st ty:Nat}{pos:String}{cu:Array Edge}{gd:Option (Nat×Bool)}
theorem Jt {d:Option Nat}{x:Operand}{t e:TypeId}(hx:fr.ev E x= .ak .nil [])(ht:lT E.P t=some e):opC E S fr Y st ⟨d,.call ⟨.builtin .cap, #[x], #[t]⟩,ty,pos,cu,gd⟩=some (.int .i64 0,fr,Y):=by
 show Option.map _ ((some t).bind fun t=>(lT E.P t).bind fun _=>match fr.ev E x with
  |.ak .nil l|.ak .full l=>some (V.int .i64 l.length,Y)|_=>none)=_
 rw[Option.bind_some,ht,hx];rfl
theorem Zc {d:Option Nat}{x h:Operand}{t e:TypeId}{sz:Nat}(hx:fr.ev E x= .ak .nil [])(hh:fr.ev E h= .int .i64 0)(hu:E.P.underlying t=some (.slice e))(hs:dM E.P e=some sz):
 opC E S fr Y st ⟨d,.slice t x none (some h) none,ty,pos,cu,gd⟩=some (.ak .nil [],fr,Y):=by
 show Option.map _ ((lF E.P Y t (fr.ev E x) none (some (fr.ev E h)) none).map fun v=>(v,Y))=_;rw[hx,hh];unfold lF;rw[hu];dsimp only;rw[hs];rfl
theorem Zd {d:Option Nat}{x h:Operand}{t e:TypeId}{sz len cap s:Nat}{loc:aQ.Loc}{ag:Bool}(hx:fr.ev E x= .aS loc s 0 len cap sz ag)(hh:fr.ev E h= .int .i64 0)(hu:E.P.underlying t=some (.slice e))(hs:dM E.P e=some sz):
 opC E S fr Y st ⟨d,.slice t x none (some h) none,ty,pos,cu,gd⟩=some (.aS loc s 0 0 cap sz ag,fr,Y):=by
 show Option.map _ ((lF E.P Y t (fr.ev E x) none (some (fr.ev E h)) none).map fun v=>(v,Y))=_;rw[hx,hh];unfold lF;rw[hu];dsimp only;rw[hs];have:jE len cap none (some (.int .i64 0)) none=some (0,0,cap):=by unfold jE bnd pU;simp
 rw[this];simp
def akr (k:Int)(z:V):Nat:=0+(List.replicate k.toNat z).length
def TK (k:Int)(z:V):List V:=(([]:List V)++List.replicate k.toNat z).flatMap V.cells
theorem Ze {d:Nat}{x y:Operand}{t u e:TypeId}{k:Int}{sz gI:Nat}{z:V}{ag:Bool}(ho:fr.aj=true)(hx:fr.ev E x= .ak .nil [])(hy:fr.ev E y= .int .i64 k)(hu:E.P.underlying u=some (.int .i64))(h1:lT E.P t=some e)(h2:dM E.P e=some sz)(h3:u7 E.P e=some gI)(h4:jU E.P e=some ag)(h5:jc E.P e=some z)(h6:z.cells.length=sz)(h7:0<sz)(h8:(ag||sz==1)=true)(h9:dx z.cells=true)(h10:gI<=16)(k0:0<=k)(k1:k<=2^40):
 opC E S fr Y st ⟨some d,.call ⟨.builtin .append, #[x,y], #[t,u]⟩,ty,pos,cu,gd⟩=some (.aS (fr.d,E.cn d) st 0 (akr k z) (akr k z) sz ag,fr,Y.setObj (fr.d,E.cn d) st (.cells (TK k z))):=by
 show Option.map _ ((some t).bind fun t=>((some u).bind E.P.underlying).bind fun u=>match u with
  |.int _=>kI E.P fr.aj true Y st (some (fr.d,E.cn d)) t (fr.ev E x) (fr.ev E y)|.slice _|.string=>kI E.P fr.aj false Y st (some (fr.d,E.cn d)) t (fr.ev E x) (fr.ev E y)|_=>none)=_
 rw[Option.bind_some,Option.bind_some,hu,ho,hx,hy];show Option.map _ (kI E.P true true Y st (some (fr.d,E.cn d)) t (.ak .nil []) (.int .i64 k))=_;unfold kI;rw[h1,Option.bind_some,h2,Option.bind_some,h3,Option.bind_some,h4,Option.bind_some,h5,Option.bind_some,if_pos ⟨rfl,h6,h7,h8⟩];rw[show nQ Y ag sz z (.int .i64 k)=some (List.replicate k.toNat z) from (if_pos ⟨k0,RS⟩:(if 0<=k/\k<=2^47 then some (List.replicate k.toNat z) else none)=_),Option.bind_some,if_pos (by rw[List.all_replicate,h9];simp)];dsimp only;have hr:bZ (([]:List V).length+(List.replicate k.toNat z).length) gI=true:=by
  unfold bZ;simp only[List.length_nil,o7,List.length_replicate,aZ,decide_eq_true_eq];have hk:k.toNat<=2^40:=RS
  exact⟨eZ (Nat.mul_le_mul hk h10) aK,RS⟩
 rw[if_pos ⟨hr,rfl⟩];rfl
end
theorem awd (k:Int)(h0:0<=k)(h1:k<=2^40):iX E 174 [.ak .nil [],.int .i64 k] 1 ah.init (TJ 1):=by
 have hP:E.P=Tryz.prog:=rfl;have e1:lT E.P 61=some 3:=av
 have e2:dM E.P 3=some 1:=av
 have e6:E.P.underlying 61=some (.slice 3):=av
 have e7:E.P.underlying 3=some (.int .i64):=av
 have e8:jc E.P 3=some (.int .i64 0):=av
 have e9:jU E.P 3=some false:=av
 have e10:u7 E.P 3=some 8:=av
 have e3:decide (k<0)=false:=decide_eq_false RS;have e4:IntKind.i64.wrap (k-0)=k:=by rw[Int.sub_zero];exact TI RS RS
 have e5:IntKind.i64.wrap (0-((0:Nat):Int))=0:=aK
 have hres:Tryz.f174.results.toList=[.tmp 4]:=rfl;refine iX.of (fn:=Tryz.f174) (c:=Tryz.f174.body.getD .skip) Tryz.func174 rfl av ?_;generalize hfr:({d:=1,aj:=E.aj 174,tm:=fun i=>([.ak .nil [],.int .i64 k]:List V).getD i aP}:Fr)=fr;have a0:fr.tm 0= .ak .nil []:=iM
 have a1:fr.tm 1= .int .i64 k:=iM
 have a2:fr.aj=true:=iM
 have a3:fr.d=1:=Al
 clear hfr;refine aF.seq (aF.region ?_);refine ay.a1 ?_;refine ay.nil (dh.n ?_);refine aF.seq (aF.seq (aF.region ?_));refine ay.a1 ?_;refine ay.a1 ?_;refine ay.nil (dh.n ?_);refine aF.vG jB ?_;refine aF.skip (dh.n ?_);refine aF.seq (aF.seq (aF.region ?_));refine ay.a1 ?_;refine ay.a1 ?_;refine ay.o1 bD (fun S=>Jt iL e1) ?_;refine ay.a1 ?_;refine ay.o1 bD (by intro S;simp only[go_sem,Nat.reduceBEq,Nat.reduceAdd,List.length_nil, *];with_reducible exact Is.rfl) ?_;refine ay.a1 ?_;refine ay.a1 ?_;refine ay.a1 ?_;refine ay.nil (dh.n ?_);refine aF.seq (aF.region ?_);refine ay.a1 ?_;refine ay.a1 ?_;refine ay.nil (dh.n ?_);cases hk:decide (k>0) with
 |false=>refine aF.vG jB ?_;refine aF.skip (dh.n (dh.n ?_));refine aF.seq (aF.region ?_);refine ay.a1 ?_;refine ay.a1 ?_;refine ay.nil (dh.n ?_);refine aF.ret ?_;rw[hres];refine oN.one (v0:=.ak .nil []) tT xS (.inl rfl)|true=>refine aF.uw jB ?_;refine aF.region ?_;refine ay.a1 ?_;refine ay.a1 ?_;refine ay.o1 bD (fun S=>Jt iL e1) ?_;refine ay.o1 bD (fun S=>Zc iL iL e6 e2) ?_;refine ay.a1 ?_;refine ay.o1 bD (fun S=>Ze (k:=k) iL iL iL e7 e1 e2 e10 e9 e8 rfl aK rfl rfl aK h0 h1) ?_;refine ay.a1 ?_;refine ay.a1 ?_;refine ay.o1 bD (fun S=>Zd La (by simp only[go_sem,Nat.reduceBEq,List.length_nil, *];rfl) e6 e2) ?_;refine ay.a1 ?_;refine ay.nil (dh.n (dh.n ?_));refine aF.seq (aF.region ?_);refine ay.a1 ?_;refine ay.a1 ?_;refine ay.nil (dh.n ?_);refine aF.ret ?_;rw[hres];refine oN.one tT xS (.inr ⟨_,_,_,_,TK k (.int .i64 0),rfl,?_⟩);simp only[go_sem,Nat.reduceBEq, *]
theorem awe (k:Int)(h0:0<=k)(h1:k<=2^40):iX E 175 [.ak .nil [],.int .i64 k] 1 ah.init (TJ 1):=by
 have hP:E.P=Tryz.prog:=rfl;have e1:lT E.P 94=some 5:=av
 have e2:dM E.P 5=some 1:=av
 have e6:E.P.underlying 94=some (.slice 5):=av
 have e7:E.P.underlying 3=some (.int .i64):=av
 have e8:jc E.P 5=some (.int .u8 0):=av
 have e9:jU E.P 5=some false:=av
 have e10:u7 E.P 5=some 1:=av
 have e3:decide (k<0)=false:=decide_eq_false RS;have e4:IntKind.i64.wrap (k-0)=k:=by rw[Int.sub_zero];exact TI RS RS
 have e5:IntKind.i64.wrap (0-((0:Nat):Int))=0:=aK
 have hres:Tryz.f175.results.toList=[.tmp 4]:=rfl;refine iX.of (fn:=Tryz.f175) (c:=Tryz.f175.body.getD .skip) Tryz.func175 rfl av ?_;generalize hfr:({d:=1,aj:=E.aj 175,tm:=fun i=>([.ak .nil [],.int .i64 k]:List V).getD i aP}:Fr)=fr;have a0:fr.tm 0= .ak .nil []:=iM
 have a1:fr.tm 1= .int .i64 k:=iM
 have a2:fr.aj=true:=iM
 have a3:fr.d=1:=Al
 clear hfr;refine aF.seq (aF.region ?_);refine ay.a1 ?_;refine ay.nil (dh.n ?_);refine aF.seq (aF.seq (aF.region ?_));refine ay.a1 ?_;refine ay.a1 ?_;refine ay.nil (dh.n ?_);refine aF.vG jB ?_;refine aF.skip (dh.n ?_);refine aF.seq (aF.seq (aF.region ?_));refine ay.a1 ?_;refine ay.a1 ?_;refine ay.o1 bD (fun S=>Jt iL e1) ?_;refine ay.a1 ?_;refine ay.o1 bD (by intro S;simp only[go_sem,Nat.reduceBEq,Nat.reduceAdd,List.length_nil, *];with_reducible exact Is.rfl) ?_;refine ay.a1 ?_;refine ay.a1 ?_;refine ay.a1 ?_;refine ay.nil (dh.n ?_);refine aF.seq (aF.region ?_);refine ay.a1 ?_;refine ay.a1 ?_;refine ay.nil (dh.n ?_);cases hk:decide (k>0) with
 |false=>refine aF.vG jB ?_;refine aF.skip (dh.n (dh.n ?_));refine aF.seq (aF.region ?_);refine ay.a1 ?_;refine ay.a1 ?_;refine ay.nil (dh.n ?_);refine aF.ret ?_;rw[hres];refine oN.one (v0:=.ak .nil []) tT xS (.inl rfl)|true=>refine aF.uw jB ?_;refine aF.region ?_;refine ay.a1 ?_;refine ay.a1 ?_;refine ay.o1 bD (fun S=>Jt iL e1) ?_;refine ay.o1 bD (fun S=>Zc iL iL e6 e2) ?_;refine ay.a1 ?_;refine ay.o1 bD (fun S=>Ze (k:=k) iL iL iL e7 e1 e2 e10 e9 e8 rfl aK rfl rfl aK h0 h1) ?_;refine ay.a1 ?_;refine ay.a1 ?_;refine ay.o1 bD (fun S=>Zd La (by simp only[go_sem,Nat.reduceBEq,List.length_nil, *];rfl) e6 e2) ?_;refine ay.a1 ?_;refine ay.nil (dh.n (dh.n ?_));refine aF.seq (aF.region ?_);refine ay.a1 ?_;refine ay.a1 ?_;refine ay.nil (dh.n ?_);refine aF.ret ?_;rw[hres];refine oN.one tT xS (.inr ⟨_,_,_,_,TK k (.int .u8 0),rfl,?_⟩);simp only[go_sem,Nat.reduceBEq, *]
theorem awf (k:Int)(h0:0<=k)(h1:k<=2^40):iX E 167 [.ak .nil [],.int .i64 k] 1 ah.init (TJ 1):=by
 have hP:E.P=Tryz.prog:=rfl;have e1:lT E.P 116=some 9:=av
 have e2:dM E.P 9=some 1:=av
 have e6:E.P.underlying 116=some (.slice 9):=av
 have e7:E.P.underlying 3=some (.int .i64):=av
 have e8:jc E.P 9=some (.str []):=av
 have e9:jU E.P 9=some false:=av
 have e10:u7 E.P 9=some 16:=av
 have e3:decide (k<0)=false:=decide_eq_false RS;have e4:IntKind.i64.wrap (k-0)=k:=by rw[Int.sub_zero];exact TI RS RS
 have e5:IntKind.i64.wrap (0-((0:Nat):Int))=0:=aK
 have hres:Tryz.f167.results.toList=[.tmp 4]:=rfl;refine iX.of (fn:=Tryz.f167) (c:=Tryz.f167.body.getD .skip) Tryz.func167 rfl av ?_;generalize hfr:({d:=1,aj:=E.aj 167,tm:=fun i=>([.ak .nil [],.int .i64 k]:List V).getD i aP}:Fr)=fr;have a0:fr.tm 0= .ak .nil []:=iM
 have a1:fr.tm 1= .int .i64 k:=iM
 have a2:fr.aj=true:=iM
 have a3:fr.d=1:=Al
 clear hfr;refine aF.seq (aF.region ?_);refine ay.a1 ?_;refine ay.nil (dh.n ?_);refine aF.seq (aF.seq (aF.region ?_));refine ay.a1 ?_;refine ay.a1 ?_;refine ay.nil (dh.n ?_);refine aF.vG jB ?_;refine aF.skip (dh.n ?_);refine aF.seq (aF.seq (aF.region ?_));refine ay.a1 ?_;refine ay.a1 ?_;refine ay.o1 bD (fun S=>Jt iL e1) ?_;refine ay.a1 ?_;refine ay.o1 bD (by intro S;simp only[go_sem,Nat.reduceBEq,Nat.reduceAdd,List.length_nil, *];with_reducible exact Is.rfl) ?_;refine ay.a1 ?_;refine ay.a1 ?_;refine ay.a1 ?_;refine ay.nil (dh.n ?_);refine aF.seq (aF.region ?_);refine ay.a1 ?_;refine ay.a1 ?_;refine ay.nil (dh.n ?_);cases hk:decide (k>0) with
 |false=>refine aF.vG jB ?_;refine aF.skip (dh.n (dh.n ?_));refine aF.seq (aF.region ?_);refine ay.a1 ?_;refine ay.a1 ?_;refine ay.nil (dh.n ?_);refine aF.ret ?_;rw[hres];refine oN.one (v0:=.ak .nil []) tT xS (.inl rfl)|true=>refine aF.uw jB ?_;refine aF.region ?_;refine ay.a1 ?_;refine ay.a1 ?_;refine ay.o1 bD (fun S=>Jt iL e1) ?_;refine ay.o1 bD (fun S=>Zc iL iL e6 e2) ?_;refine ay.a1 ?_;refine ay.o1 bD (fun S=>Ze (k:=k) iL iL iL e7 e1 e2 e10 e9 e8 rfl aK rfl rfl aK h0 h1) ?_;refine ay.a1 ?_;refine ay.a1 ?_;refine ay.o1 bD (fun S=>Zd La (by simp only[go_sem,Nat.reduceBEq,List.length_nil, *];rfl) e6 e2) ?_;refine ay.a1 ?_;refine ay.nil (dh.n (dh.n ?_));refine aF.seq (aF.region ?_);refine ay.a1 ?_;refine ay.a1 ?_;refine ay.nil (dh.n ?_);refine aF.ret ?_;rw[hres];refine oN.one tT xS (.inr ⟨_,_,_,_,TK k (.str []),rfl,?_⟩);simp only[go_sem,Nat.reduceBEq, *]
theorem Zf {f sz:Nat}{l:List V}{k:Int}(h:iX E f [.ak .nil [],.int .i64 k] 1 ah.init (TJ sz)):oM E f [.ak .nil [],.int .i64 k] sz []:=by
 obtain⟨n,v,aB,h1,h2⟩:=h;refine⟨n,v,aB,h1,fun st Y=>?_⟩;rcases h2 with rfl| ⟨loc,s,cap,ag,cs,rfl,hc⟩
 .exact .inl ⟨.nil,.inl rfl,rfl⟩
 .exact .inr (by unfold rO;dsimp only;rw[if_pos ⟨rfl,rfl⟩,hc];rfl)
theorem Zg {U:Type}{k:Int}{x:List U}(h:FN k=some x):0<=k/\k<=2^40/\x=[]:=by
 unfold FN at h;split at h
 .rename_i hk;cases h;exact⟨hk.1,hk.2,rfl⟩
 .cases h
theorem awg:∀u p x,Jq (u,p)=some x->oM E 174 (.ak .nil []::bR R [.d (.int .i64)] p) (dL R (.int .i64)) (x.map (aU R (.int .i64))):=by intro u p x h;unfold Jq at h;obtain⟨h0,h1,rfl⟩:=Zg h;exact Zf (l:=[]) (awd p h0 h1)
theorem awh:∀u p x,Jr (u,p)=some x->oM E 175 (.ak .nil []::bR R [.d (.int .i64)] p) (dL R (.int .u8)) (x.map (aU R (.int .u8))):=by intro u p x h;unfold Jr at h;obtain⟨h0,h1,rfl⟩:=Zg h;exact Zf (l:=[]) (awe p h0 h1)
theorem awi:∀u p x,Js (u,p)=some x->oM E 167 (.ak .nil []::bR R [.d (.int .i64)] p) (dL R .str) (x.map (aU R .str)):=by intro u p x h;unfold Js at h;obtain⟨h0,h1,rfl⟩:=Zg h;exact Zf (l:=[]) (awf p h0 h1)
def Zh (_:Nat):Nat->List (iy R):=kM 167 ⟨Jp,[.d (.slice .str)],Js,[],true⟩ (kM 175 ⟨Jp,[.d (.slice (.int .u8))],Jr,[],true⟩ (kM 174 ⟨Jp,[.d (.slice (.int .i64))],Jq,[],true⟩ aj2))
theorem awj (n:Nat):bg E (Zh n):=YX (YX (YX avC awg) awh) awi
end Sh
end
section
open Go Go.Proofs aQ
namespace Sh
theorem awk (a b:List Int):TB [lv (V.int .u8) a,lv (V.int .u8) b]=some (.int .i64 (Nq a b)):=by show (Bf (a.map (V.int .u8))).bind _=_;rw[Y3,Option.bind_some,Y3];rfl
theorem awl (p:aV R.T [.d (.slice (.int .u8)),.d (.slice (.int .u8))])(x:Int)(h:some (Nq p.1 p.2)=some x):Pure E 116 (bR R [.d (.slice (.int .u8)),.d (.slice (.int .u8))] p) (jW [.int .i64 x]):=by
 cases h;exact⟨0,awk p.1 p.2⟩
end Sh
end
section
namespace aQ
open Go
def Env.sm (E:Env)(s:FuncId->Option (List V->Option V)):Env:={E with mP:=s}
section
variable {E:Env}{s:FuncId->Option (List V->Option V)}{S T:iW}
def Dk (E:Env)(s:FuncId->Option (List V->Option V))(S T:iW):Prop:=∀f args v,mQ (E.sm s) S f args=some v->mQ E T f args=some v
theorem aks (hc:Dk E s S T)(h:jG S T){d:Nat}{Y:ah}{fv:V}{args:List V}{r:V×ah}(hh:jL (E.sm s) S d Y fv args=some r):jL E T d Y fv args=some r:=by
 unfold jL at hh⊢;split at hh
 .split at hh
  .rename_i hi;have hi':E.imp _=true:=hi;simp only[hi',if_true];exact h.2 _ _ _ _ _ hh
  .rename_i hi;have hi':¬E.imp _=true:=hi;simp only[iP] at hh;obtain⟨aFS,h1,v,h2,h3⟩:=hh;simp only[hi',h1,Option.bind_some,hc _ _ _ h2];exact h3
 .exact Xa h hh
 .simp at hh
theorem awm (h:jG S T){Y:ah}{st:Nat}{fv:V}{args:List V}{r:V×ah}(hh:qO (E.sm s) S Y st fv args=some r):qO E T Y st fv args=some r:=ahB (E:=E) h hh
theorem Zi (hc:Dk E s S T)(h:jG S T){fr:Fr}{Y:ah}{st:Nat}{o:Oper}{r:V×Fr×ah}(hh:opC (E.sm s) S fr Y st o=some r):opC E T fr Y st o=some r:=by
 unfold opC at hh⊢;split at hh
 .rename_i c ho;simp only[ho] at hh⊢;split at hh
  .exact hh
  .rename_i f hf;split at hh
   .rename_i eX;have Zj:lU E fr o f=true:=eX;simp only[Zj,if_true];simp only[aY] at hh⊢;obtain⟨x,h1,h2⟩:=hh;exact⟨x,awm h h1,h2⟩
   rename_i eX;have Zj:¬lU E fr o f=true:=eX;simp only[Zj,if_false,dG];simp only[aY] at hh⊢;obtain⟨x,h1,h2⟩:=hh;exact⟨x,aks hc h h1,h2⟩
  .simp at hh
 .simp at hh
 .exact hh
theorem awn (hc:Dk E s S T)(h:jG S T)(all:List Oper):∀(os:List Oper)(st:Nat)(fr:Fr)(Y:ah)(r:Fr×ah),opsE (E.sm s) S all st os fr Y=some r->opsE E T all st os fr Y=some r:=by
 intro os;induction os with
 |nil=>intro st fr Y r hh;exact hh|cons o os ih=>
  intro st fr Y r hh;simp only[opsE,iP] at hh⊢;obtain⟨t,h1,h2⟩:=hh;refine⟨t,h1,?_⟩;cases t with
  |true=>simp only[if_true,iP] at h2⊢;obtain⟨x,h3,h4⟩:=h2;exact⟨x,Zi hc h h3,ih _ _ _ _ h4⟩
  |false=>simp only[dG,if_false] at h2⊢;exact ih _ _ _ _ h2
theorem awo (hc:Dk E s S T)(h:jG S T)(all:List Oper):∀(os:List Oper)(st:Nat)(fr:Fr)(Y:ah)(r:List dP×Fr×ah),mR (E.sm s) S all st os fr Y=some r->mR E T all st os fr Y=some r:=by
 intro os;induction os with
 |nil=>intro st fr Y r hh;exact hh|cons o os ih=>
  intro st fr Y r hh;simp only[mR,iP] at hh⊢;obtain⟨t,h1,h2⟩:=hh;refine⟨t,h1,?_⟩;cases t with
  |true=>simp only[if_true,iP,aY] at h2⊢;obtain⟨x,h3,y,h4,h5⟩:=h2;exact⟨x,Zi hc h h3,y,ih _ _ _ _ h4,h5⟩
  |false=>simp only[dG,if_false,aY] at h2⊢;obtain⟨y,h4,h5⟩:=h2;exact⟨y,ih _ _ _ _ h4,h5⟩
theorem awp (hc:Dk E s S T)(h:jG S T){ops:List Oper}{base i:Nat}{fr:Fr}{Y:ah}{r:Fr×ah}(hh:jk (E.sm s) S ops base i fr Y=some r):jk E T ops base i fr Y=some r:=by
 unfold jk at hh⊢;split at hh
 .exact hh
 .simp only[iP] at hh⊢;obtain⟨t,h1,h2⟩:=hh;refine⟨t,h1,?_⟩;cases t with
  |true=>simp only[if_true,aY] at h2⊢;obtain⟨x,h3,h4⟩:=h2;exact⟨x,Zi hc h h3,h4⟩
  |false=>simpa using h2
theorem awq (hc:Dk E s S T)(h:jG S T){ms:List Nat}{ops:List Oper}{base:Nat}{x y:Fr×ah}(hf:Free (E.sm s) S ms ops base x y):Free E T ms ops base x y:=by obtain⟨s',T',W,h0,hn,EM,hloc,hr⟩:=hf;refine⟨s',T',W,h0,hn,EM,fun i hi x hx=>?_,hr⟩;obtain⟨y,h1,h2⟩:=hloc i hi x hx;exact⟨y,awp hc h h1,h2⟩
theorem awr (hc:Dk E s S T)(h:jG S T):∀(c:Code)(fr:Fr)(Y:ah)(r:Ex×Fr×ah),eu (E.sm s) S c fr Y=some r->eu E T c fr Y=some r:=by
 intro c;induction c with
 |region id ops dr=>
  intro fr Y r hh;simp only[eu] at hh⊢;split at hh
  .rename_i hd;simp only[hd,if_true,iP] at hh⊢;obtain⟨x,h1,h2⟩:=hh;refine⟨x,awo hc h _ _ _ _ _ _ h1,?_⟩;split at h2
   .rename_i hp;rw[if_pos hp];exact h2
   .rename_i hp;rw[if_neg hp];unfold Lv at h2⊢;split at h2
    .rename_i hf;rw[if_pos ⟨hf.1,awq hc h hf.2⟩];exact h2
    .cases h2
  .rename_i hd;simp only[hd,dG,if_false,aY] at hh⊢;obtain⟨x,h1,h2⟩:=hh;exact⟨x,awn hc h _ _ _ _ _ _ h1,h2⟩
 |seq a b iha ihb=>
  intro fr Y r hh;simp only[eu,iP] at hh⊢;obtain⟨⟨e,bJ,aB⟩,h1,h2⟩:=hh;refine⟨(e,bJ,aB),iha _ _ _ h1,?_⟩;cases e with
  |normal=>exact ihb _ _ _ h2|exit i=>exact h2|ret=>exact h2
 |cond c a b iha ihb=>
  intro fr Y r hh;simp only[eu,iP] at hh⊢;obtain⟨t,h1,h2⟩:=hh;refine⟨t,h1,?_⟩;cases t with
  |true=>simp only[if_true] at h2⊢;exact iha _ _ _ h2|false=>simp only[dG,if_false] at h2⊢;exact ihb _ _ _ h2
 |block id c ih=>intro fr Y r hh;simp only[eu,aY] at hh⊢;obtain⟨x,h1,h2⟩:=hh;exact⟨x,ih _ _ _ h1,h2⟩
 |loop c ih=>
  intro fr Y r hh;simp only[eu,iP] at hh⊢;obtain⟨⟨e,bJ,aB⟩,h1,h2⟩:=hh;refine⟨(e,bJ,aB),ih _ _ _ h1,?_⟩;cases e with
  |normal=>exact h.1 _ _ _ _ h2|exit i=>exact h2|ret=>exact h2
 |rangeFunc f ps a b iha ihb=>
  intro fr Y r hh;simp only[eu] at hh⊢;split at hh
  .rename_i hf;rw[if_pos (by exact hf)];simp only[iP] at hh⊢;obtain⟨x,h1,h2⟩:=hh;exact⟨x,aks hc h h1,h2⟩
  .simp at hh
 |scope c ih=>intro fr Y r hh;simp only[eu] at hh⊢;exact ih _ _ _ hh|_=>intro fr Y r hh;simpa [eu] using hh
theorem awt (h:jG S T){f:FuncId}{args:List V}{d:Nat}{Y:ah}{r:V×ah}(hh:qP (E.sm s) S f args d Y=some r):qP E T f args d Y=some r:=ahC (E:=E) h hh
theorem awu {M:Nat}(hs:∀f g,s f=some g->∀args v,g args=some v->mQ E (bI E M) f args=some v)(hn:∀f,s f=none->E.mP f=none):∀n,jG (bI (E.sm s) n) (bI E (n+M)):=by
 have pure:∀n,jG (bI (E.sm s) n) (bI E (n+M))->Dk E s (bI (E.sm s) n) (bI E (n+M)):=by
  intro n h f args v hv;unfold mQ at hv;cases hf:(E.sm s).mP f with
  |some g=>rw[hf] at hv;exact HZ (jM (Nat.le_add_left M n)) (hs f g hf args v hv)|none=>rw[hf] at hv;simp only[iP] at hv;obtain⟨x,h1,h2⟩:=hv;unfold mQ;rw[hn f hf];simp only[h.2 _ _ _ _ _ h1,Option.bind_some];exact h2
 intro n;induction n with
 |zero=>exact⟨(fun _ _ _ _ h=>cZ),(fun _ _ _ _ _ h=>cZ)⟩
 |succ n ih=>rw[Nat.succ_add];exact⟨fun c fr Y r hh=>awr (pure n ih) ih c fr Y r hh,fun f args d Y r hh=>awt ih hh⟩
theorem awv {M:Nat}(hs:∀f g,s f=some g->∀args v,g args=some v->mQ E (bI E M) f args=some v)(hn:∀f,s f=none->E.mP f=none){f:FuncId}{args:List V}{v:V}{n:Nat}(hf:s f=none)(h:mQ (E.sm s) (bI (E.sm s) n) f args=some v):Pure E f args v:=by refine⟨n+M,?_⟩;unfold mQ at h;rw[show (E.sm s).mP f=none from hf] at h;simp only[iP] at h;obtain⟨x,h1,h2⟩:=h;unfold mQ;rw[hn f hf];simp only[(awu hs hn n).2 _ _ _ _ _ h1,Option.bind_some];exact h2
end
end aQ
end
