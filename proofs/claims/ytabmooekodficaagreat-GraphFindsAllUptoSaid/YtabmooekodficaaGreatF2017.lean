import Derived.Test.YtabmooekodficaaGreatF2014
import Derived.Test.YtabmooekodficaaGreatF2016
set_option linter.all false
section
open Go Go.Proofs Aq
namespace Sh
set_option maxRecDepth 100000
def rT:Nat->Type
 |0=>Hood|1=>Graph|2=>ref27_Slots|3=>ref27_Built|4=>ref27_Slot|5=>graph_space|6=>graph_search|_+7=>Unit
def rd:(n:Nat)->rT n
 |0=>(⟨0,[]⟩:Hood)|1=>(⟨[]⟩:Graph)|2=>(⟨[],0,false,0⟩:ref27_Slots)|3=>(⟨⟨[]⟩,0⟩:ref27_Built)|4=>(⟨0,0⟩:ref27_Slot)|5=>(⟨0,[]⟩:graph_space)|6=>(⟨⟨0,[]⟩,⟨[]⟩,[]⟩:graph_search)|_+7=>()
def rlf:Nat->List Ty
 |0=>[.int .i64,.slice (.int .i64)]|1=>[.slice (.st 0)]|2=>[.slice (.int .i64),.int .i64,.bool,.int .i64]|3=>[.slice (.st 0),.int .i64]|4=>[.int .i64,.int .i64]|5=>[.int .i64,.slice (.slice (.int .i64))]|6=>[.int .i64,.slice (.slice (.int .i64)),.slice (.st 0),.slice (.int .i64)]|_+7=>[]
def rto:(n:Nat)->PayT rT (rlf n)->rT n
 |0=>fun p=>(⟨p.1,p.2⟩:Hood)
 |1=>fun p=>(⟨p⟩:Graph)
 |2=>fun p=>(⟨p.1,p.2.1,p.2.2.1,p.2.2.2⟩:ref27_Slots)
 |3=>fun p=>(⟨⟨p.1⟩,p.2⟩:ref27_Built)
 |4=>fun p=>(⟨p.1,p.2⟩:ref27_Slot)
 |5=>fun p=>(⟨p.1,p.2⟩:graph_space)
 |6=>fun p=>(⟨⟨p.1,p.2.1⟩,⟨p.2.2.1⟩,p.2.2.2⟩:graph_search)
 |_+7=>fun _=>()
def rof:(n:Nat)->rT n->PayT rT (rlf n)
 |0=>fun (x:Hood)=>(x.Radius,x.Slots)
 |1=>fun (x:Graph)=>(x.Hoods)
 |2=>fun (x:ref27_Slots)=>(x.L,x.At,x.Sure,x.E)
 |3=>fun (x:ref27_Built)=>(x.G.Hoods,x.E)
 |4=>fun (x:ref27_Slot)=>(x.N,x.E)
 |5=>fun (x:graph_space)=>(x.m,x.l)
 |6=>fun (x:graph_search)=>(x.space.m,x.space.l,x.g.Hoods,x.keyed)
 |_+7=>fun _=>()
def renc:(n:Nat)->rT n->V
 |0=>fun (x:Hood)=>Hood.v x
 |1=>fun (x:Graph)=>Graph.v x
 |2=>fun (x:ref27_Slots)=>ref27_Slots.v x
 |3=>fun (x:ref27_Built)=>ref27_Built.v x
 |4=>fun (x:ref27_Slot)=>ref27_Slot.v x
 |5=>fun (x:graph_space)=>graph_space.v x
 |6=>fun (x:graph_search)=>graph_search.v x
 |_+7=>fun _=>.agg []
def rty:List (Nat×Ty):=[(2,.int .i64),(3,.int .i64),(4,.bool),(5,.int .u8),(6,.int .u8),(9,.str),(10,.str),(11,.str),(12,.int .u64),(21,.int .i32),(22,.slice (.slice (.int .i64))),(23,.slice (.st 0)),(25,.st 1),(26,.slice (.int .i64)),(30,.int .i64),(36,.st 2),(48,.st 3),(51,.st 4),(61,.st 0),(63,.st 5),(65,.st 6),(103,.int .u64),(110,.int .i64),(118,.int .u32),(120,.int .u64),(127,.int .u64),(146,.int .u8),(147,.int .u8),(150,.int .i32),(151,.int .i32)]
def R:Reg:={T:=rT,d:=rd,lf:=rlf,to:=rto,of:=rof,enc:=renc,ty:=fun t=>look rty t,gl:=fun _=>none}
theorem rOK:RegOK R where
 of_to:=fun n p=>by
  match n,p with
  |0,p=>exact rfl|1,p=>exact rfl|2,p=>exact rfl|3,p=>exact rfl|4,p=>exact rfl|5,p=>exact rfl|6,p=>exact rfl|_+7,p=>exact rfl
 enc:=fun n x=>by
  match n,x with
  |0,x=>exact rfl|1,x=>exact rfl|2,x=>exact rfl|3,x=>exact rfl|4,x=>exact rfl|5,x=>exact rfl|6,x=>exact rfl|_+7,x=>exact rfl
 leaf:=fun n=>by
  match n with
  |0=>exact rfl|1=>exact rfl|2=>exact rfl|3=>exact rfl|4=>exact rfl|5=>exact rfl|6=>exact rfl|_+7=>exact rfl
 pc:=fun n x=>by
  match n,x with
  |0,x=>exact Hood.pc x|1,x=>exact Graph.pc x|2,x=>exact ref27_Slots.pc x|3,x=>exact ref27_Built.pc x|4,x=>exact ref27_Slot.pc x|5,x=>exact graph_space.pc x|6,x=>exact graph_search.pc x|_+7,x=>exact(by simp[R,renc,pclean,pcleanL])
end Sh
end
section
open Go Go.Proofs Aq
namespace Sh
def globS (_:Nat):Option (List V):=none
end Sh
end
