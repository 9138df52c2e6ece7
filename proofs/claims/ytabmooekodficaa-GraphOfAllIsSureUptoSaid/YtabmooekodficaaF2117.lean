import Derived.Test.YtabmooekodficaaF2114
import Derived.Test.YtabmooekodficaaF2116
set_option linter.all false
section
open Go Go.Proofs Aq
namespace Sh
set_option maxRecDepth 100000
def rT:Nat->Type
 |0=>Hood
 |1=>Graph
 |2=>graph_space
 |3=>graph_search
 |_+4=>Unit
def rd:(n:Nat)->rT n
 |0=>(⟨0,[]⟩:Hood)
 |1=>(⟨[]⟩:Graph)
 |2=>(⟨0,[]⟩:graph_space)
 |3=>(⟨⟨0,[]⟩,⟨[]⟩,[]⟩:graph_search)
 |_+4=>()
def rlf:Nat->List Ty
 |0=>[.int .i64,.slice (.int .i64)]
 |1=>[.slice (.st 0)]
 |2=>[.int .i64,.slice (.slice (.int .i64))]
 |3=>[.int .i64,.slice (.slice (.int .i64)),.slice (.st 0),.slice (.int .i64)]
 |_+4=>[]
def rto:(n:Nat)->PayT rT (rlf n)->rT n
 |0=>fun p=>(⟨p.1,p.2⟩:Hood)
 |1=>fun p=>(⟨p⟩:Graph)
 |2=>fun p=>(⟨p.1,p.2⟩:graph_space)
 |3=>fun p=>(⟨⟨p.1,p.2.1⟩,⟨p.2.2.1⟩,p.2.2.2⟩:graph_search)
 |_+4=>fun _=>()
def rof:(n:Nat)->rT n->PayT rT (rlf n)
 |0=>fun (x:Hood)=>(x.Radius,x.Slots)
 |1=>fun (x:Graph)=>(x.Hoods)
 |2=>fun (x:graph_space)=>(x.m,x.l)
 |3=>fun (x:graph_search)=>(x.space.m,x.space.l,x.g.Hoods,x.keyed)
 |_+4=>fun _=>()
def renc:(n:Nat)->rT n->V
 |0=>fun (x:Hood)=>Hood.v x
 |1=>fun (x:Graph)=>Graph.v x
 |2=>fun (x:graph_space)=>graph_space.v x
 |3=>fun (x:graph_search)=>graph_search.v x
 |_+4=>fun _=>.agg []
def rty:List (Nat×Ty):=[(2,.int .i64),(3,.int .i64),(4,.bool),(5,.int .u8),(6,.int .u8),(9,.str),(10,.str),(11,.str),(12,.int .u64),(21,.int .i32),(22,.slice (.slice (.int .i64))),(23,.slice (.st 0)),(25,.st 1),(26,.slice (.int .i64)),(32,.int .i64),(39,.st 0),(54,.st 2),(56,.st 3),(89,.int .u64),(96,.int .i64),(104,.int .u32),(106,.int .u64),(114,.int .u64),(133,.int .u8),(134,.int .u8),(137,.int .i32),(138,.int .i32)]
def R:Reg:={T:=rT,d:=rd,lf:=rlf,to:=rto,of:=rof,enc:=renc,ty:=fun t=>look rty t,gl:=fun _=>none}
theorem rOK:RegOK R where
 of_to:=fun n p=>by
  match n,p with
  |0,p=>exact rfl
  |1,p=>exact rfl
  |2,p=>exact rfl
  |3,p=>exact rfl
  |_+4,p=>exact rfl
 enc:=fun n x=>by
  match n,x with
  |0,x=>exact rfl
  |1,x=>exact rfl
  |2,x=>exact rfl
  |3,x=>exact rfl
  |_+4,x=>exact rfl
 leaf:=fun n=>by
  match n with
  |0=>exact rfl
  |1=>exact rfl
  |2=>exact rfl
  |3=>exact rfl
  |_+4=>exact rfl
 pc:=fun n x=>by
  match n,x with
  |0,x=>exact Hood.pc x
  |1,x=>exact Graph.pc x
  |2,x=>exact graph_space.pc x
  |3,x=>exact graph_search.pc x
  |_+4,x=>exact(by simp[R,renc,pclean,pcleanL])
end Sh
end
section
open Go Go.Proofs Aq
namespace Sh
def globS (_:Nat):Option (List V):=none
end Sh
end
