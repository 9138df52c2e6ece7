import Derived.DefersIn
import Derived.Lib.SliceRun
import Derived.Maps.RangeRun
import Derived.Test.YthadiihdjhakdaaGreatF2913
import Derived.Test.YthadiihdjhakdaaGreatF2915
set_option linter.all false
noncomputable section
section
open Go Go.Proofs aY
namespace Sh
set_option maxRecDepth 100000
def FV:Nat->Type
 |0=>Def|1=>aN|2=>Pred|3=>Snapshot|4=>Query|5=>Attr|6=>Entry|7=>Row|8=>Book|9=>fA|10=>iB|11=>jW|12=>jQ|13=>Event|14=>dh|15=>jl|16=>eF|17=>jX|_+18=>Unit
def rd:(n:Nat)->FV n
 |0=>(⟨[],0,0,0,[]⟩:Def)|1=>(⟨0,0,[]⟩:aN)|2=>(⟨0,[],0,0,[],[]⟩:Pred)|3=>(⟨0,0⟩:Snapshot)|4=>(⟨[],0,0,⟨0,[],0,0,[],[]⟩,⟨0,0⟩,0⟩:Query)|5=>(⟨[],0,0,[]⟩:Attr)|6=>(⟨0,0,0,0,0,0,0,[],[]⟩:Entry)|7=>(⟨⟨0,0,0,0,0,0,0,[],[]⟩,0⟩:Row)|8=>(⟨⟨0,0,[]⟩,0,0,[],[]⟩:Book)|9=>(⟨⟨⟨0,0,[]⟩,0,0,[],[]⟩,0,0⟩:fA)|10=>(⟨0,0,0⟩:iB)|11=>(⟨[],0⟩:jW)|12=>(⟨0,0,0,0,0,0,0,0,0,0,0,0,0,0,0,0⟩:jQ)|13=>(⟨0,0,0,0,0,0,0,[],[],⟨0,0,0,0,0,0,0,0,0,0,0,0,0,0,0,0⟩⟩:Event)
 |14=>(⟨⟨⟨0,0,[]⟩,0,0,[],[]⟩,0⟩:dh)|15=>(⟨0,false⟩:jl)|16=>(⟨0,0⟩:eF)|17=>(⟨⟨[],0,0,[]⟩,false⟩:jX)|_+18=>()
def aaD:Nat->List Ty
 |0=>[.str,.int .i64,.int .i64,.int .i64,.slice .str]|1=>[.int .i64,.int .i64,.slice (.st 0)]|2=>[.int .i64,.str,.int .i64,.int .i64,.str,.slice (.st 2)]|3=>[.int .i64,.int .i64]|4=>[.slice (.int .i64),.int .i64,.int .i64,.int .i64,.str,.int .i64,.int .i64,.str,.slice (.st 2),.int .i64,.int .i64,.int .i64]|5=>[.str,.int .i64,.int .i64,.str]|6=>[.int .i64,.int .i64,.int .i64,.int .i64,.int .i64,.int .i64,.int .i64,.slice (.int .i64),.slice (.st 5)]
 |7=>[.int .i64,.int .i64,.int .i64,.int .i64,.int .i64,.int .i64,.int .i64,.slice (.int .i64),.slice (.st 5),.int .i64]|8=>[.int .i64,.int .i64,.slice (.st 0),.int .i64,.int .i64,.slice (.int .i64),.slice (.st 7)]|9=>[.int .i64,.int .i64,.slice (.st 0),.int .i64,.int .i64,.slice (.int .i64),.slice (.st 7),.int .i64,.int .i64]|10=>[.int .i64,.int .i64,.int .i64]|11=>[.slice (.st 10),.int .i64]|12=>[.int .u8,.int .u8,.int .u8,.int .u8,.int .u8,.int .u8,.int .u8,.int .u8,.int .u8,.int .u8,.int .u8,.int .u8,.int .u8,.int .u8,.int .u8,.int .u8]
 |13=>[.int .i64,.int .i64,.int .i64,.int .i64,.int .i64,.int .i64,.int .i64,.slice (.int .i64),.slice (.st 5),.int .u8,.int .u8,.int .u8,.int .u8,.int .u8,.int .u8,.int .u8,.int .u8,.int .u8,.int .u8,.int .u8,.int .u8,.int .u8,.int .u8,.int .u8,.int .u8]|14=>[.int .i64,.int .i64,.slice (.st 0),.int .i64,.int .i64,.slice (.int .i64),.slice (.st 7),.int .i64]|15=>[.int .i64,.bool]|16=>[.int .i64,.int .i64]
 |17=>[.str,.int .i64,.int .i64,.str,.bool]|_+18=>[]
def asF:(n:Nat)->qx FV (aaD n)->FV n
 |0=>fun p=>(⟨p.1,p.2.1,p.2.2.1,p.2.2.2.1,p.2.2.2.2⟩:Def)
 |1=>fun p=>(⟨p.1,p.2.1,p.2.2⟩:aN)
 |2=>fun p=>(⟨p.1,p.2.1,p.2.2.1,p.2.2.2.1,p.2.2.2.2.1,p.2.2.2.2.2⟩:Pred)
 |3=>fun p=>(⟨p.1,p.2⟩:Snapshot)
 |4=>fun p=>(⟨p.1,p.2.1,p.2.2.1,⟨p.2.2.2.1,p.2.2.2.2.1,p.2.2.2.2.2.1,p.2.2.2.2.2.2.1,p.2.2.2.2.2.2.2.1,p.2.2.2.2.2.2.2.2.1⟩,⟨p.2.2.2.2.2.2.2.2.2.1,p.2.2.2.2.2.2.2.2.2.2.1⟩,p.2.2.2.2.2.2.2.2.2.2.2⟩:Query)
 |5=>fun p=>(⟨p.1,p.2.1,p.2.2.1,p.2.2.2⟩:Attr)
 |6=>fun p=>(⟨p.1,p.2.1,p.2.2.1,p.2.2.2.1,p.2.2.2.2.1,p.2.2.2.2.2.1,p.2.2.2.2.2.2.1,p.2.2.2.2.2.2.2.1,p.2.2.2.2.2.2.2.2⟩:Entry)
 |7=>fun p=>(⟨⟨p.1,p.2.1,p.2.2.1,p.2.2.2.1,p.2.2.2.2.1,p.2.2.2.2.2.1,p.2.2.2.2.2.2.1,p.2.2.2.2.2.2.2.1,p.2.2.2.2.2.2.2.2.1⟩,p.2.2.2.2.2.2.2.2.2⟩:Row)
 |8=>fun p=>(⟨⟨p.1,p.2.1,p.2.2.1⟩,p.2.2.2.1,p.2.2.2.2.1,p.2.2.2.2.2.1,p.2.2.2.2.2.2⟩:Book)
 |9=>fun p=>(⟨⟨⟨p.1,p.2.1,p.2.2.1⟩,p.2.2.2.1,p.2.2.2.2.1,p.2.2.2.2.2.1,p.2.2.2.2.2.2.1⟩,p.2.2.2.2.2.2.2.1,p.2.2.2.2.2.2.2.2⟩:fA)
 |10=>fun p=>(⟨p.1,p.2.1,p.2.2⟩:iB)
 |11=>fun p=>(⟨p.1,p.2⟩:jW)
 |12=>fun p=>(⟨p.1,p.2.1,p.2.2.1,p.2.2.2.1,p.2.2.2.2.1,p.2.2.2.2.2.1,p.2.2.2.2.2.2.1,p.2.2.2.2.2.2.2.1,p.2.2.2.2.2.2.2.2.1,p.2.2.2.2.2.2.2.2.2.1,p.2.2.2.2.2.2.2.2.2.2.1,p.2.2.2.2.2.2.2.2.2.2.2.1,p.2.2.2.2.2.2.2.2.2.2.2.2.1,p.2.2.2.2.2.2.2.2.2.2.2.2.2.1,p.2.2.2.2.2.2.2.2.2.2.2.2.2.2.1,p.2.2.2.2.2.2.2.2.2.2.2.2.2.2.2⟩:jQ)
 |13=>fun p=>(⟨p.1,p.2.1,p.2.2.1,p.2.2.2.1,p.2.2.2.2.1,p.2.2.2.2.2.1,p.2.2.2.2.2.2.1,p.2.2.2.2.2.2.2.1,p.2.2.2.2.2.2.2.2.1,⟨p.2.2.2.2.2.2.2.2.2.1,p.2.2.2.2.2.2.2.2.2.2.1,p.2.2.2.2.2.2.2.2.2.2.2.1,p.2.2.2.2.2.2.2.2.2.2.2.2.1,p.2.2.2.2.2.2.2.2.2.2.2.2.2.1,p.2.2.2.2.2.2.2.2.2.2.2.2.2.2.1,p.2.2.2.2.2.2.2.2.2.2.2.2.2.2.2.1,p.2.2.2.2.2.2.2.2.2.2.2.2.2.2.2.2.1,p.2.2.2.2.2.2.2.2.2.2.2.2.2.2.2.2.2.1,p.2.2.2.2.2.2.2.2.2.2.2.2.2.2.2.2.2.2.1,p.2.2.2.2.2.2.2.2.2.2.2.2.2.2.2.2.2.2.2.1,p.2.2.2.2.2.2.2.2.2.2.2.2.2.2.2.2.2.2.2.2.1,p.2.2.2.2.2.2.2.2.2.2.2.2.2.2.2.2.2.2.2.2.2.1,p.2.2.2.2.2.2.2.2.2.2.2.2.2.2.2.2.2.2.2.2.2.2.1,p.2.2.2.2.2.2.2.2.2.2.2.2.2.2.2.2.2.2.2.2.2.2.2.1,p.2.2.2.2.2.2.2.2.2.2.2.2.2.2.2.2.2.2.2.2.2.2.2.2⟩⟩:Event)
 |14=>fun p=>(⟨⟨⟨p.1,p.2.1,p.2.2.1⟩,p.2.2.2.1,p.2.2.2.2.1,p.2.2.2.2.2.1,p.2.2.2.2.2.2.1⟩,p.2.2.2.2.2.2.2⟩:dh)
 |15=>fun p=>(⟨p.1,p.2⟩:jl)
 |16=>fun p=>(⟨p.1,p.2⟩:eF)
 |17=>fun p=>(⟨⟨p.1,p.2.1,p.2.2.1,p.2.2.2.1⟩,p.2.2.2.2⟩:jX)
 |_+18=>fun _=>()
def asG:(n:Nat)->FV n->qx FV (aaD n)
 |0=>fun (x:Def)=>(x.Name,x.Kind,x.Lo,x.Hi,x.Words)
 |1=>fun (x:aN)=>(x.iT,x.jH,x.Defs)
 |2=>fun (x:Pred)=>(x.Op,x.Name,x.N,x.M,x.S,x.Uz)
 |3=>fun (x:Snapshot)=>(x.Day,x.aB)
 |4=>fun (x:Query)=>(x.Vec,x.K,x.Within,x.Where.Op,x.Where.Name,x.Where.N,x.Where.M,x.Where.S,x.Where.Uz,x.At.Day,x.At.aB,x.Budget)
 |5=>fun (x:Attr)=>(x.Name,x.Kind,x.N,x.S)
 |6=>fun (x:Entry)=>(x.ID,x.dw,x.bP,x.dn,x.From,x.To,x.dH,x.Vec,x.aQ)
 |7=>fun (x:Row)=>(x.Entry.ID,x.Entry.dw,x.Entry.bP,x.Entry.dn,x.Entry.From,x.Entry.To,x.Entry.dH,x.Entry.Vec,x.Entry.aQ,x.fH)
 |8=>fun (x:Book)=>(x.aN.iT,x.aN.jH,x.aN.Defs,x.aB,x.Day,x.dL,x.Rows)
 |9=>fun (x:fA)=>(x.B.aN.iT,x.B.aN.jH,x.B.aN.Defs,x.B.aB,x.B.Day,x.B.dL,x.B.Rows,x.N,x.E)
 |10=>fun (x:iB)=>(x.ID,x.dw,x.Key)
 |11=>fun (x:jW)=>(x.L,x.E)
 |12=>fun (x:jQ)=>(x.b0,x.b1,x.b2,x.b3,x.b4,x.b5,x.b6,x.b7,x.b8,x.b9,x.b10,x.b11,x.b12,x.b13,x.b14,x.b15)
 |13=>fun (x:Event)=>(x.Kind,x.aB,x.Day,x.ID,x.bP,x.Until,x.From,x.Vec,x.aQ,x.aO.b0,x.aO.b1,x.aO.b2,x.aO.b3,x.aO.b4,x.aO.b5,x.aO.b6,x.aO.b7,x.aO.b8,x.aO.b9,x.aO.b10,x.aO.b11,x.aO.b12,x.aO.b13,x.aO.b14,x.aO.b15)
 |14=>fun (x:dh)=>(x.B.aN.iT,x.B.aN.jH,x.B.aN.Defs,x.B.aB,x.B.Day,x.B.dL,x.B.Rows,x.E)
 |15=>fun (x:jl)=>(x.N,x.Is)
 |16=>fun (x:eF)=>(x.from_,x.to)
 |17=>fun (x:jX)=>(x.A.Name,x.A.Kind,x.A.N,x.A.S,x.Is)
 |_+18=>fun _=>()
def aiu:(n:Nat)->FV n->V
 |0=>fun (x:Def)=>Def.v x
 |1=>fun (x:aN)=>aN.v x
 |2=>fun (x:Pred)=>Pred.v x
 |3=>fun (x:Snapshot)=>Snapshot.v x
 |4=>fun (x:Query)=>Query.v x
 |5=>fun (x:Attr)=>Attr.v x
 |6=>fun (x:Entry)=>Entry.v x
 |7=>fun (x:Row)=>Row.v x
 |8=>fun (x:Book)=>Book.v x
 |9=>fun (x:fA)=>fA.v x
 |10=>fun (x:iB)=>iB.v x
 |11=>fun (x:jW)=>jW.v x
 |12=>fun (x:jQ)=>jQ.v x
 |13=>fun (x:Event)=>Event.v x
 |14=>fun (x:dh)=>dh.v x
 |15=>fun (x:jl)=>jl.v x
 |16=>fun (x:eF)=>eF.v x
 |17=>fun (x:jX)=>jX.v x
 |_+18=>fun _=>.agg []
def rty:List (Nat×Ty):=[(2,.int .i64),(3,.int .i64),(4,.bool),(5,.int .u8),(6,.int .u8),(9,.str),(10,.str),(11,.str),(12,.int .u64),(21,.int .i32),(22,.slice (.st 0)),(24,.st 1),(25,.slice (.st 13)),(26,.slice (.int .i64)),(27,.slice (.st 2)),(29,.st 2),(31,.st 3),(33,.st 4),(37,.slice (.st 7)),(39,.st 8),(40,.int .i64),(42,.st 9),(44,.slice (.st 10)),(48,.st 11),(52,.slice (.st 6)),(58,.slice (.st 5)),(60,.st 6),(62,.st 7),(70,.st 12),(72,.st 13),(83,.st 14),(89,.st 15),(96,.st 10),(129,.slice .str),(131,.st 0),(135,.slice (.int .u8)),(141,.slice (.st 5)),(164,.st 5),(176,.slice (.st 16)),(178,.st 16),(194,.st 17),(211,.int .u64),(215,.int .u64),(220,.int .i64),(227,.int .u32),(229,.int .u64),(244,.int .u8),(245,.int .u8),(248,.int .i32),(249,.int .i32)]
def R:gY:={T:=FV,d:=rd,lf:=aaD,to:=asF,of:=asG,enc:=aiu,ty:=fun t=>look rty t,gl:=fun _=>none}
theorem nL:rE R where
 M9:=fun n p=>by
  match n,p with
  |0,p=>exact rfl|1,p=>exact rfl|2,p=>exact rfl|3,p=>exact rfl|4,p=>exact rfl|5,p=>exact rfl|6,p=>exact rfl|7,p=>exact rfl|8,p=>exact rfl|9,p=>exact rfl|10,p=>exact rfl|11,p=>exact rfl|12,p=>exact rfl|13,p=>exact rfl|14,p=>exact rfl|15,p=>exact rfl|16,p=>exact rfl|17,p=>exact rfl|_+18,p=>exact rfl
 enc:=fun n x=>by
  match n,x with
  |0,x=>exact rfl|1,x=>exact rfl|2,x=>exact(by show Pred.v x=_;unfold Pred.v Pred.c;simp only[Pred.UA];rfl)|3,x=>exact rfl|4,x=>exact(by show Query.v x=_;unfold Query.v Query.c;simp only[Pred.UA];rfl)|5,x=>exact rfl|6,x=>exact rfl|7,x=>exact rfl|8,x=>exact rfl|9,x=>exact rfl|10,x=>exact rfl|11,x=>exact rfl|12,x=>exact rfl|13,x=>exact rfl|14,x=>exact rfl|15,x=>exact rfl|16,x=>exact rfl|17,x=>exact rfl
  |_+18,x=>exact rfl
 leaf:=fun n=>by
  match n with
  |0=>exact rfl|1=>exact rfl|2=>exact rfl|3=>exact rfl|4=>exact rfl|5=>exact rfl|6=>exact rfl|7=>exact rfl|8=>exact rfl|9=>exact rfl|10=>exact rfl|11=>exact rfl|12=>exact rfl|13=>exact rfl|14=>exact rfl|15=>exact rfl|16=>exact rfl|17=>exact rfl|_+18=>exact rfl
 pc:=fun n x=>by
  match n,x with
  |0,x=>exact Def.pc x|1,x=>exact aN.pc x|2,x=>exact Pred.pc x|3,x=>exact Snapshot.pc x|4,x=>exact Query.pc x|5,x=>exact Attr.pc x|6,x=>exact Entry.pc x|7,x=>exact Row.pc x|8,x=>exact Book.pc x|9,x=>exact fA.pc x|10,x=>exact iB.pc x|11,x=>exact jW.pc x|12,x=>exact jQ.pc x|13,x=>exact Event.pc x|14,x=>exact dh.pc x|15,x=>exact jl.pc x|16,x=>exact eF.pc x|17,x=>exact jX.pc x|_+18,x=>exact(by simp[R,aiu,aU,bN])
end Sh
end
section
open Go Go.Proofs aY
namespace Sh
def JC (_:Nat):Option (List V):=none
end Sh
end
section
namespace aY
open Go Go.RowKit
section
variable {E:Env}{B0 r:Nat}{σ σ':au}{K K':aV}{w w':World}{o1 o2:Obj}
def wQ:Obj->Prop
 |.mapIter _ _ _ _=>True|.stringIter _ _=>True|_=>False
theorem wQ.map {o:Obj}(h:wQ o):Hl o:=by cases o<;>first|exact h|exact h.elim
theorem aaE {b:Nat}{o:Obj}(hr:w.heap[r]? =some o1)(h:w.heap[b]? =some o)(hn:¬wQ o)(hi:wQ o1:=by exact True.intro):b≠r:=by rintro rfl;rw[hr] at h;cases h;exact hn hi
theorem aiv {b i:Nat}{v:Value}(hr:w.heap[r]? =some o1)(h:w.cell? (at_ b i)=some v)(hi:wQ o1:=by exact True.intro):b≠r:=by rintro rfl;exact XJ hr hi.map h
theorem Rel.turn {T:Nat->Nat}(hr:w.heap[r]? =some o1)(ho:Only r w w'){v:V}{x:Value}(h:Rel K T w v x)(hi1:wQ o1:=by exact True.intro):Rel K T w' v x:=by
 have hc:∀b i v,w.cell? (at_ b i)=some v->w'.cell? (at_ b i)=some v:=fun b i v h=>(cell_of_heap (ho.block b (aiv hr h hi1) (lt_of_cell h))).trans h;induction h with
 |int k n=>exact .int k n|bool b=>exact .bool b|str s b h=>exact .str s b h|cB=>exact .cB|dF=>exact .dF|gL=>exact .gL|iD=>exact .iD|agg cs vs hl _ ih=>exact .agg cs vs hl ih|bq cs vs hl _ ih=>exact .bq cs vs hl ih|fu c a ha hc=>exact .fu c a ha hc|ay c l b o n cap val hle hn hcell _ hca ih=>exact .ay c l b o n cap val hle hn (fun i j hi hj=>⟨hc _ _ _ (hcell i j hi hj).1,(hcell i j hi hj).2⟩) ih hca
 |aJ loc s off len cap bS ag eH hA hc hle hsz=>exact .aJ loc s off len cap bS ag eH hA hc hle hsz|l6 loc s bS ag hA=>exact .l6 loc s bS ag hA|aI cs off b o val hcell _ ih=>exact .aI cs off b o val (fun j hj=>⟨hc _ _ _ (hcell j hj).1,(hcell j hj).2⟩) ih
 |ref loc s off hA=>exact .ref loc s off hA|fn f a b kE bv ha hb _ _ iha ihb=>exact .fn f a b kE bv ha hb iha ihb|yield l hA=>exact .yield l hA|dJ loc s hA=>exact .dJ loc s hA|eU ks vs b es bR hM hb hk hv _ _ ihk EM=>exact .eU ks vs b es bR hM ((ho.block b (aaE hr hb (fun e=>e) hi1) (lt_of_heap hb)).trans hb) hk hv ihk EM
 |iface t v c _ ih=>exact .iface t v c ih|raw v=>exact .raw v
theorem kF.turn {T:Nat->Nat}(hr:w.heap[r]? =some o1)(ho:Only r w w'){fr:Fr}{tmps:Array Value}(h:kF K T w fr tmps)(hi1:wQ o1:=by exact True.intro):kF K T w' fr tmps:=fun t=>(h t).turn hr ho hi1
theorem bA.turn (h:bA E B0 σ K w)(hr:w.heap[r]? =some o1)(ho:Only r w w')(hr':w'.heap[r]? =some o2)(hi1:wQ o1:=by exact True.intro)(hi2:wQ o2:=by exact True.intro):bA E B0 σ K w':=by
 have hb:∀{b:Nat}{o:Obj},w.heap[b]? =some o->¬wQ o->w'.heap[b]? =some o:=fun h hn=>(ho.block _ (aaE hr h hn hi1) (lt_of_heap h)).trans h;have hc:∀{b i:Nat}{v:Value},w.cell? (at_ b i)=some v->w'.cell? (at_ b i)=some v/\w'.frozen? (at_ b i)=w.frozen? (at_ b i):=fun {b i v} h=>by have e:=ho.block b (aiv hr h hi1) (lt_of_cell h);exact⟨(cell_of_heap e).trans h,frozen_of_heap e⟩
 refine⟨fun loc s0 ob hs=>?_,fun s0 hs hl=>?_,fun b i hi=>?_,fun b hi=>?_,fun l rc hl=>?_,fun g cs hg=>(h.glob g cs hg).turn hr ho hi1,fun b rl hb'=>?_,fun b hd=>hb (h.D b hd) (fun e=>e)⟩
 ·obtain⟨a1,a2,a3⟩:=h.obj loc s0 ob hs
  refine⟨a1,?_,a3⟩;cases ob with
  |cells cs=>refine⟨a2.1,fun hne=>?_⟩;obtain⟨b1,vals,t,b2,b3,b4,b5⟩:=a2.2 hne;exact⟨b1,vals,t,hb b2 (fun e=>e),b3,b4,fun i hi=>(b5 i hi).turn hr ho hi1⟩
  |map ks vs=>obtain⟨b1,es,bR,b2,b3,b4,b5,b6,b7⟩:=a2;exact⟨b1,es,bR,hb b2 (fun e=>e),b3,b4,b5,fun i hi=>(b6 i hi).turn hr ho hi1,fun i hi=>(b7 i hi).turn hr ho hi1⟩
 ·obtain⟨a1,a2,a3⟩:=h.own s0 hs hl
  refine⟨a1,a2,fun o p q=>?_⟩;obtain⟨c1,⟨v,c2⟩,c3⟩:=a3 o p q;exact⟨c1,⟨v,(hc c2).1⟩,(hc c2).2.trans c3⟩
 ·obtain⟨⟨v,a1⟩,a2⟩:=h.I b i hi
  exact⟨⟨v,(hc a1).1⟩,a2⟩
 ·obtain⟨⟨o,a1,a2⟩,a3⟩:=h.IM b hi
  refine⟨?_,a3⟩;by_cases e:b=r
  ·subst e;exact⟨_,hr',hi2.map⟩
  ·exact⟨o,(ho.block b e (lt_of_heap a1)).trans a1,a2⟩
 ·obtain⟨a1,a2,a3,fn,tmps,D,a4,a5,a6⟩:=h.loop l rc hl
  exact⟨a1,a2,a3,fn,tmps,D,hb a4 (fun e=>e),a5.turn hr ho hi1,a6⟩
 ·exact⟨iq (h.rb b rl hb').1 ho.size,(h.rb b rl hb').2⟩
theorem Step.turn {new:Nat->Prop}{gZ:au}{K0:aV}{w0:World}(h0:bA E B0 gZ K0 w0)(hB:B0<=w0.heap.size)(h:Step E B0 new gZ K0 w0 σ K w)(hb:w0.heap.size<=r)(hr:w.heap[r]? =some o1)(ho:Only r w w')(hr':w'.heap[r]? =some o2)(hi1:wQ o1:=by exact True.intro)(hi2:wQ o2:=by exact True.intro):Step E B0 new gZ K0 w0 σ K w':=by
 refine⟨h.ok.turn hr ho hr' hi1 hi2,⟨h.ext.A,h.ext.own,fun b o hi=>?_,fun b hi=>?_⟩,h.below.trans (ho.below (bZ hB hb) (bZ hB h.below.size)),h.D,h.A,h.qh,h.qj⟩
 ·obtain⟨a1,a2⟩:=h.ext.I b o hi
  have hlt:=lt_of_cell (h0.I b o hi).1.choose_spec;exact⟨a1,(cell_of_heap (ho.block b ah (iq hlt h.below.size))).trans a2⟩
 ·obtain⟨a1,a2⟩:=h.ext.IM b hi
  obtain⟨⟨o,g,_⟩,_⟩:=h0.IM b hi;have hlt:=lt_of_heap g;exact⟨a1,(ho.block b ah (iq hlt h.below.size)).trans a2⟩
theorem Step.iterate {new:Nat->Prop}{loc:Loc}{st:Nat}{ks vs:List V}{es:Array MapEntry}{bR:Nat}(h:bA E B0 σ K w)(hB:B0<=w.heap.size)(hs:σ.obj loc=some (st,.map ks vs))(hv:w.heap[K.blk st]? =some (.map es bR)):
 Step E B0 new σ K w (σ.eG loc) {K with IM:=fun b=>K.IM b\/b=K.blk st\/b=w.heap.size,ρ:=upd K.ρ (K.blk st) none} (w.alloc (.mapIter (some (K.blk st)) bR #[] bR)):=by
 obtain⟨hA,⟨hb0,_⟩,hρ⟩:=h.obj _ _ _ hs;have hρ:=hρ trivial;have hblk:=(h.rb _ _ hρ).1;have e1:Ext K σ.top w {K with IM:=fun b=>K.IM b\/b=K.blk st,ρ:=upd K.ρ (K.blk st) none} (σ.eG loc).top w:=⟨fun _ h=>⟨h,rfl,rfl,rfl⟩,fun _ _=>.inl ⟨rfl,rfl,rfl,rfl⟩,fun _ _ h=>⟨h,rfl⟩,fun _ h=>⟨.inl h,rfl⟩⟩;have hget:∀l s ob,(σ.eG loc).obj l=some (s,ob)->l≠loc/\σ.obj l=some (s,ob):=fun l s ob hl=>by
  by_cases e:l=loc
  ·subst e
   simp only[au.eG,upd_same] at hl;cases hl
  ·simp only[au.eG,upd_ne _ _ e] at hl
   exact⟨e,hl⟩
 have ok1:bA E B0 (σ.eG loc) {K with IM:=fun b=>K.IM b\/b=K.blk st,ρ:=upd K.ρ (K.blk st) none} w:=by
  refine h.upd (b:=K.blk st) ⟨rfl,rfl,rfl,RS _,fun _ _ _=>rfl,RS _⟩ e1 (fun k hk=>upd_ne _ _ hk) (fun r hr=>⟨hblk,hb0⟩) ?_ ?_ ?_ ?_ ?_ ?_
  ·intro l s ob hl
   obtain⟨g1,g2⟩:=hget _ _ _ hl;exact .inl ⟨g2,fun hr=>h.LM g2 hs g1 hr trivial⟩
  ·intro s2 hs2 hlt
   have a2:=(h.own s2 hs2 hlt).2.1;refine .inl ⟨hs2,rfl,rfl,rfl,fun e'=>?_⟩;rw[e',hρ] at a2;cases a2
  ·intro b' i hi
   exact .inl ⟨hi,fun e'=>(h.I b' i hi).2 loc (e'▸hρ)⟩
  ·intro b' hi
   rcases hi with hi|rfl
   ·exact .inl ⟨hi,fun e'=>(h.IM b' hi).2 loc (e'▸hρ)⟩
   ·exact .inr ⟨rfl,⟨_,hv,trivial⟩,fun l e=>by have e:upd K.ρ (K.blk st) none (K.blk st)=some (.obj l):=e;rw[upd_same] at e;cases e⟩
  ·intro l rc hl
   refine .inl ⟨hl,fun e'=>?_⟩;have a2:=(h.loop l rc hl).2.2.1;rw[e',hρ] at a2;cases a2
  ·intro b' hd
   exact .inl ⟨hd,xQ (h.D b' hd) hv aC⟩
 have ho:=BD w (.mapIter (some (K.blk st)) bR #[] bR);have e2:Ext {K with IM:=fun b=>K.IM b\/b=K.blk st,ρ:=upd K.ρ (K.blk st) none} (σ.eG loc).top w {K with IM:=fun b=>K.IM b\/b=K.blk st\/b=w.heap.size,ρ:=upd K.ρ (K.blk st) none} (σ.eG loc).top (w.alloc (.mapIter (some (K.blk st)) bR #[] bR)):=by
  refine⟨fun _ h=>⟨h,rfl,rfl,rfl⟩,fun _ _=>.inl ⟨rfl,rfl,rfl,rfl⟩,fun b i hi=>⟨hi,?_⟩,fun b hb=>⟨hb.imp id .inl,?_⟩⟩
  ·obtain⟨⟨v,hv⟩,_⟩:=ok1.I b i hi
   rw[hv];exact Ho hv
  ·obtain⟨⟨_,hv,_⟩,_⟩:=ok1.IM b hb
   exact heap_alloc_old (lt_of_heap hv)
 have wB:bA E B0 (σ.eG loc) {K with IM:=fun b=>K.IM b\/b=K.blk st\/b=w.heap.size,ρ:=upd K.ρ (K.blk st) none} (w.alloc (.mapIter (some (K.blk st)) bR #[] bR)):=by
  refine ok1.upd (b:=w.heap.size) ho e2 (fun _ _=>rfl) (fun rl hr=>?_) ?_ ?_ ?_ ?_ ?_ ?_
  ·have:=(ok1.rb _ _ hr).1;omega
  ·intro l s ob hl
   refine .inl ⟨hl,fun hr=>?_⟩;have:=(ok1.rb _ _ ((ok1.obj _ _ _ hl).2.2 hr)).1;exact jK this
  ·intro s2 hs2 hlt
   refine .inl ⟨hs2,rfl,rfl,rfl,?_⟩;have:=(ok1.rb _ _ (ok1.own s2 hs2 hlt).2.1).1;exact jK this
  ·intro b' i hi
   obtain⟨⟨v,hv⟩,_⟩:=ok1.I b' i hi;exact .inl ⟨hi,jK (lt_of_cell hv)⟩
  ·intro b' hi
   rcases hi with hi|hi|rfl
   ·obtain⟨⟨_,hv,_⟩,_⟩:=ok1.IM b' (.inl hi)
    exact .inl ⟨.inl hi,jK (lt_of_heap hv)⟩
   ·exact .inl ⟨.inr hi,ah⟩
   ·refine .inr ⟨rfl,⟨_,heap_alloc_new w _,trivial⟩,fun l e=>?_⟩
    have:=(ok1.rb _ _ e).1;omega
  ·intro l rc hl
   exact .inl ⟨hl,jK (ok1.rb _ _ (ok1.loop l rc hl).2.2.1).1⟩
  ·intro b' hd
   exact .inl ⟨hd,jK (lt_of_heap (ok1.D b' hd))⟩
 exact⟨wB,e1.trans e2,ho.below hB hB,fun _ h=>h,fun _ h=>.inl h,fun _ _ h=>.inl h,fun b hi=>hi.imp id (by rintro (rfl|rfl)<;>assumption)⟩
theorem Step.asH {new:Nat->Prop}{o:Obj}(hi:wQ o)(h:bA E B0 σ K w)(hB:B0<=w.heap.size):
 Step E B0 new σ K w σ {K with IM:=fun b=>K.IM b\/b=w.heap.size} (w.alloc o):=by
 have ho:=BD w o;have e2:Ext K σ.top w {K with IM:=fun b=>K.IM b\/b=w.heap.size} σ.top (w.alloc o):=by
  refine⟨fun _ h=>⟨h,rfl,rfl,rfl⟩,fun _ _=>.inl ⟨rfl,rfl,rfl,rfl⟩,fun b i hi=>⟨hi,?_⟩,fun b hb=>⟨.inl hb,?_⟩⟩
  ·obtain⟨⟨v,hv⟩,_⟩:=h.I b i hi
   rw[hv];exact Ho hv
  ·obtain⟨⟨_,hv,_⟩,_⟩:=h.IM b hb
   exact heap_alloc_old (lt_of_heap hv)
 have wB:bA E B0 σ {K with IM:=fun b=>K.IM b\/b=w.heap.size} (w.alloc o):=by
  refine h.upd (b:=w.heap.size) ho e2 (fun _ _=>rfl) (fun rl hr=>?_) ?_ ?_ ?_ ?_ ?_ ?_
  ·have:=(h.rb _ _ hr).1;omega
  ·intro l s ob hl
   refine .inl ⟨hl,fun hr=>?_⟩;have:=(h.rb _ _ ((h.obj _ _ _ hl).2.2 hr)).1;exact jK this
  ·intro s2 hs2 hlt
   refine .inl ⟨hs2,rfl,rfl,rfl,?_⟩;have:=(h.rb _ _ (h.own s2 hs2 hlt).2.1).1;exact jK this
  ·intro b' i hi
   obtain⟨⟨v,hv⟩,_⟩:=h.I b' i hi;exact .inl ⟨hi,jK (lt_of_cell hv)⟩
  ·intro b' hb
   rcases hb with hb|rfl
   ·obtain⟨⟨_,hv,_⟩,_⟩:=h.IM b' hb
    exact .inl ⟨hb,jK (lt_of_heap hv)⟩
   ·refine .inr ⟨rfl,⟨_,heap_alloc_new w _,hi.map⟩,fun l e=>?_⟩
    have:=(h.rb _ _ e).1;omega
  ·intro l rc hl
   exact .inl ⟨hl,jK (h.rb _ _ (h.loop l rc hl).2.2.1).1⟩
  ·intro b' hd
   exact .inl ⟨hd,jK (lt_of_heap (h.D b' hd))⟩
 exact⟨wB,e2,ho.below hB hB,fun _ h=>h,fun _ h=>.inl h,fun _ _ h=>.inl h,fun b hb=>hb.imp id (by rintro rfl;exact hB)⟩
end
end aY
end
section
namespace aY
open Go Go.RowKit
section
variable (E:Env)
end
section
variable {E:Env}{K K':aV}{w w':World}{σ σ':au}{B0:Nat}
def JD (vs:List V):V:=match vs with| [v]=>v|vs=>.bq vs
theorem aiw (h:bA E B0 σ K w){fn:Func}{fr:Fr}{tmps:Array Value}(hf:kF K σ.top w fr tmps){vs:List V}(hvs:fn.results.toList.mapM (lJ E fr σ)=some vs):
 ∃c,(results fn tmps).run E.P w= .ok c w/\Rel K σ.top w (JD vs) c:=by
 obtain⟨cs,k1,k2,k3⟩:=aff h hf fn.results.toList vs hvs;have hrun:(results fn tmps).run E.P w= .ok (if h:cs.toArray.size=1 then cs.toArray[0] else .tuple cs.toArray) w:=by have hres:results fn tmps=(do let vs<-fn.results.mapM (MB tmps);pure (if h:vs.size=1 then vs[0] else .tuple vs)):=rfl;rw[hres,Array.mapM_eq_mapM_toList];simp only[Sem.run_bind,Sem.run_map,k1,Result.andThen_ok,Sem.run_pure]
 refine⟨_,hrun,?_⟩;cases vs with
 |nil=>
  have:cs=[]:=Rx
  subst this;exact .bq [] #[] rfl (fun i hi=>absurd hi (gK i))
 |cons v1 vs=>
  cases cs with
  |nil=>simp at k2|cons c1 cs=>
   cases vs with
   |nil=>have:cs=[]:=Rx;subst this;have:=k3 0 aC;show Rel K σ.top w v1 _;simpa using this|cons v2 vs=>have hsz2:¬((c1::cs).toArray.size=1):=(by simp only[List.length_cons,Nat.add_right_cancel_iff] at k2;rw[List.size_toArray,List.length_cons];omega);rw[dif_neg hsz2];refine .bq _ _ RF (fun i hi=>?_);have:=k3 i hi;simpa [Ac,List.getD] using this
theorem aix {f:FuncId}{d:Nat}{fn:Func}{args:List V}{bV:Array Value}(hs:bA E B0 σ K w)(hB:B0<=w.heap.size)(hA:∀s,K.A s->s<σ.next)(hr:RelA K σ.top w args bV)(hlen:args.length<=fn.ntmps):
 St E B0 σ K w {d:=d,aj:=E.aj f,tm:=fun i=>args.getD i aK} {tmps:=bV++Array.replicate (fn.ntmps-bV.size) undef,defers:=[]} fn.ntmps ⟨[],w.heap.size,true⟩:=by
 have hsz:bV.size=args.length:=hr.1.symm;refine⟨hs,hB,fun t=>?_,jR,⟨[],rfl,List.nodup_nil,(fun b hb=>by cases hb),fun _=>rfl⟩,hA,RS _⟩;show Rel K σ.top w (args.getD t aK) _;by_cases ht:t<args.length
 ·have e1:(bV++Array.replicate (fn.ntmps-bV.size) undef).getD t undef=bV.getD t undef:=by simp only[Ac];rw[Array.getElem?_append_left ah]
  rw[e1];exact hr.2 t ht
 ·have e1:(bV++Array.replicate (fn.ntmps-bV.size) undef).getD t undef=undef:=by simp only[Ac];rw[Array.getElem?_append_right ah,Array.getElem?_replicate];split<;>rfl
  have e2:args.getD t aK=aK:=by simp[List.getD,List.getElem?_eq_none (Nat.le_of_not_lt ht)]
  rw[e1,e2];exact .undef _ _ _
theorem JE {F:Fence}{n:Nat}{P:Program}{ops:Array Oper}{Q:Exit->Act->World->Prop}{m:List Nat}:∀(l:List Nat)(a:Act)(w:World),
 wpOpsIn F n P ops (fun x a w=>match x with|.normal=>wpOpsIn F n P ops Q m a w|x=>Q x a w) l a w->wpOpsIn F n P ops Q (l++m) a w
 | [],a,w,h=>h|i::l,a,w,h=>by
  rw[List.cons_append];unfold wpOpsIn at h⊢;cases ho:ops[i]? with
  |none=>simp only[ho] at h⊢;exact JE l a w h|some o=>
   simp only[ho] at h⊢;split
   ·rename_i hw
    rw[if_pos hw] at h;refine⟨h.1,?_⟩;have h2:=h.2;revert h2;generalize (o.semAt F.round a.eval).run P w=res;intro h2;unfold Oper.uponIn at h2⊢;split at h2<;>try exact JE l _ _ h2
    all_goals first
     |exact h2
     | (refine⟨h2.1,h2.2.mono ?_⟩
        intro e w' hp;cases e<;>first|exact JE l _ _ hp|exact hp)
     | (refine⟨h2.1,?_⟩;exact RowsIn.mono h2.2 fun v w' hp=>JE l _ _ hp)
   ·rename_i hw
    rw[if_neg hw] at h;exact⟨h.1,JE l _ _ h.2⟩
theorem RelA.ext {K K':aV}{T T':Nat->Nat}{w w':World}(e:Ext K T w K' T' w'){l:List V}{cl:Array Value}(h:RelA K T w l cl):RelA K' T' w' l cl:=⟨h.1,fun i hi=>(h.2 i hi).ext e⟩
end
section
variable {E:Env}{S:l5}{B0 n:Nat}{σ σ' σ1:au}{K K':aV}{w w':World}{fr fr' bT:Fr}{a:Act}{ds:Dc}{ro:Option Nat}
theorem aiy {ops:Array Oper}{o:Oper}(hg:o.guard=none)(tmps:Array Value):Region.wanted o (yielded ops tmps)=true:=by unfold Region.wanted;rw[hg]
theorem aiz {o:Oper}{c:Value}{next:Act->World->Prop}{Q:Exit->Act->World->Prop}(hd:∀c,o.op≠ .defer c)(h:(execOp a.eval o).run E.P w= .ok (.value c) w')(hn:next (a.put o.dst c) w'):o.wpIn (lW ro) 0 E.P a w next Q:=by refine⟨fun f _=>trivial,?_⟩;rw[Md _ _ hd,h];exact hn
theorem aaF (hE:kX E)(hS:Sound E S){id:Nat}{ops:Array Oper}{k:Nat}{o:Oper}{Q:Exit->Act->World->Prop}(hsz:ops.size=k+1)(ho:ops[k]? =some o)(hg:o.guard=none)(hd:∀c,o.op≠ .defer c)(hpre:opsL E S ops.toList σ.next (List.range k) fr {σ with next:=σ.next+ops.size}=some (bT,σ1))(hs:St E B0 σ K w fr a n ds)(hok:xP n ops.toList=true)(hq:∀a1 K1 w1,St E B0 σ1 K1 w1 bT a1 n ds->Step E B0 (newer σ σ1) σ K w σ1 K1 w1->∃c w2,(execOp a1.eval o).run E.P w1= .ok (.value c) w2/\Q .normal (a1.put o.dst c) w2):(Code.region id ops false).wpIn (lW ro) 0 E.P Q a w:=by
 refine wpIn_region ?_;rw[hsz,List.range_succ];refine JE _ _ _ ?_;have hnx:=BJ hS _ _ _ _ _ hpre;simp only at hnx;have hs':St E B0 {σ with next:=σ.next+ops.size} K w fr a n ds:=⟨Mj hs.ok _,hs.hB,hs.fr,hs.sz,hs.df,fun s h=>iq (hs.st s h) (gD _ _),hs.hD⟩;refine Yu hE hS ops σ.next hok ro _ (List.range k) fr _ K w a hpre List.nodup_range (fun i hi=>by have:=List.mem_range.1 hi;omega) hs' (RS _) (fun i hi hA=>by have:=hs.st _ hA;omega) ?_;intro a1 K1 w1 hs1 st1;have st':Step E B0 (newer σ σ1) {σ with next:=σ.next+ops.size} K w σ1 K1 w1:=st1.mono (fun s hs=>by
  rcases hs with h|h
  ·exact⟨h.1,ah⟩
  ·exact⟨bZ (gD _ _) h.1,h.2⟩)
 obtain⟨c,w2,h1,h2⟩:=hq a1 K1 w1 hs1 ⟨st'.ok,st'.ext,st'.below,st'.D,st'.A,st'.qh,st'.qj⟩;show wpOpsIn (lW ro) 0 E.P ops Q [k] a1 w1;unfold wpOpsIn;rw[ho];simp only[aiy hg,if_true];exact aiz hd h1 h2
theorem NU (hE:kX E)(hS:Sound E S){id:Nat}{ops:Array Oper}{m:Nat}{o:Oper}{Q:Exit->Act->World->Prop}(hsz:ops.size=m+1)(ho:ops[0]? =some o)(hg:o.guard=none)(hd:∀c,o.op≠ .defer c)(hok:xP n ops.toList=true){c:Value}{v:V}{w2:World}{K2:aV}{σ2:au}(h1:(execOp a.eval o).run E.P w= .ok (.value c) w2)(h2:St E B0 σ2 K2 w2 (fr.put o.dst v) (a.put o.dst c) n ds)(hn2:σ2.next=σ.next+ops.size)(h3:∀s,K2.A s->s<σ.next){qo:Fr}{σ3:au}(h4:opsL E S ops.toList σ.next (List.range' 1 m) (fr.put o.dst v) σ2=some (qo,σ3))(h5:σ.next+ops.size<=σ3.next->∀a3 q8 w3,St E B0 σ3 q8 w3 qo a3 n ds->Step E B0 (newer σ σ3) σ2 K2 w2 σ3 q8 w3->Q .normal a3 w3):(Code.region id ops false).wpIn (lW ro) 0 E.P Q a w:=by
 refine wpIn_region ?_;rw[hsz,List.range_eq_range',List.range'_succ];unfold wpOpsIn;rw[ho];simp only[aiy hg,if_true];refine aiz hd h1 ?_;have hnx:=BJ hS _ _ _ _ _ h4;rw[hn2] at hnx;refine Yu hE hS ops σ.next hok ro _ (List.range' 1 m) _ _ K2 w2 _ h4 List.nodup_range' (fun i hi=>by have:=List.mem_range'_1.1 hi;omega) h2 ah (fun i hi hA=>by have:=h3 _ hA;omega) ?_;intro a3 q8 w3 hs3 pz;refine h5 hnx a3 q8 w3 hs3 (pz.mono (fun s hs=>by
  rcases hs with h|h
  ·exact⟨h.1,ah⟩
  ·have:=h.1
   exact⟨ah,h.2⟩))
def dM (E:Env)(c:Code)(fr:Fr)(σ:au)(Q:Ex->Fr->au->Prop):Prop:=
 ∀ro B0 K w a n ds,St E B0 σ K w fr a n ds->jg n c=true->(ro=none/\ds.nm=false\/lG c=true)->c.wpIn (lW ro) 0 E.P (fun x a' w'=>∃e fr' σ',σ.next<=σ'.next/\Q e fr' σ'/\BI E B0 n ds σ K w e fr' σ' x a' w') a w
theorem dM.mono {c:Code}{Q Q':Ex->Fr->au->Prop}(h:dM E c fr σ Q)(hq:∀e fr' σ',Q e fr' σ'->Q' e fr' σ'):dM E c fr σ Q':=
 fun ro B0 K w a n ds hs hok hnr=>wpIn_mono (h ro B0 K w a n ds hs hok hnr) fun _ _ _ ⟨e,fr',σ',h1,h2,h3⟩=>⟨e,fr',σ',h1,hq _ _ _ h2,h3⟩
theorem dM.of {c:Code}{e:Ex}{Q:Ex->Fr->au->Prop}(h:o8 E c fr σ e fr' σ')(hq:Q e fr' σ'):dM E c fr σ Q:=
 fun ro B0 K w a n ds hs hok hnr=>wpIn_mono (h.2 ro B0 K w a n ds hs hok hnr) fun _ _ _ hp=>⟨e,fr',σ',h.1,hq,hp⟩
theorem dM.cw (hE:kX E){c:Code}{Q:Ex->Fr->au->Prop}(h:bM E c fr σ Q):dM E c fr σ Q:=by obtain⟨m,e,fr',σ',h1,h2⟩:=h;exact .of (afe hE m (fun k _=>Ij hE k) c _ _ _ _ _ h1) h2
theorem dM.seq {x y:Code}{Q:Ex->Fr->au->Prop}(h:dM E x fr σ fun e bT σ1=>match e with
 |.normal=>dM E y bT σ1 Q|e=>Q e bT σ1):dM E (.seq x y) fr σ Q:=by
 intro ro B0 K w a n ds hs hok hnr;simp only[jg,iP] at hok;simp only[lG,iP] at hnr;refine wpIn_seq (wpIn_mono (h ro B0 K w a n ds hs hok.1 (hnr.imp id And.left)) ?_);rintro z a1 w1 ⟨e,bT,σ1,h1,hq,hx,K1,s1,st1⟩;cases e with
 |normal=>
  cases z<;>simp only[lM] at hx;refine wpIn_mono (hq ro B0 K1 w1 a1 n ds s1 hok.2 (hnr.imp id And.right)) ?_;rintro z a2 w2 ⟨e2,fT,σ2,h2,hq2,hp⟩;exact⟨e2,fT,σ2,bZ h1 h2,hq2,BI.widen st1 h1 h2 _ _ _ hp⟩
 |exit i=>cases z<;>simp only[lM] at hx;exact⟨_,_,_,h1,hq,hx,K1,s1,st1⟩|ret=>cases z<;>simp only[lM] at hx;exact⟨_,_,_,h1,hq,hx,K1,s1,st1⟩
theorem dM.block {id:Nat}{c:Code}{Q:Ex->Fr->au->Prop}(h:dM E c fr σ fun e bT σ1=>Q (Mc id e) bT σ1):dM E (.block id c) fr σ Q:=by
 intro ro B0 K w a n ds hs hok hnr;refine wpIn_block (wpIn_mono (h ro B0 K w a n ds hs hok hnr) ?_);rintro x a1 w1 ⟨e,bT,σ1,h1,hq,hx,K1,s1,st1⟩;cases e with
 |normal=>cases x<;>simp only[lM] at hx;exact⟨_,_,_,h1,hq,trivial,K1,s1,st1⟩|ret=>cases x<;>simp only[lM] at hx;exact⟨_,_,_,h1,hq,trivial,K1,s1,st1⟩|exit i=>
  cases x<;>simp only[lM] at hx;subst hx;simp only[Exit.inBlock,Mc] at hq⊢;split at hq
  ·rename_i hi
   rw[if_pos hi];exact⟨_,_,_,h1,hq,trivial,K1,s1,st1⟩
  ·rename_i hi
   rw[if_neg hi];exact⟨_,_,_,h1,hq,rfl,K1,s1,st1⟩
end
section
variable {E:Env}{σ:au}{fr:Fr}
def wR (es:Array MapEntry)(l:List Nat):Array Nat:=(l.map fun i=>(es.getD i default).born).toArray
theorem aiA (es:Array MapEntry)(l:List Nat)(i:Nat):wR es (l++[i])=(wR es l).push (es.getD i default).born:=by unfold wR;rw[oV,List.map_singleton];exact(List.push_toArray ..).symm
theorem aiB {es:Array MapEntry}{l:List Nat}{b:Nat}:(wR es l).contains b=true↔∃i∈l,(es.getD i default).born=b:=by unfold wR;rw[Array.contains_iff_mem];simp
theorem born_inj {es:Array MapEntry}{bR:Nat}(h:dH es bR){i j:Nat}(hi:i<es.size)(hj:j<es.size)(e:(es.getD i default).born=(es.getD j default).born):i=j:=by
 have hl:(es.toList.map MapEntry.born).length=es.size:=aC
 have hn:=h.2;have g:∀k (hk:k<es.size),(es.toList.map MapEntry.born)[k]'(by rw[hl];exact hk)=(es.getD k default).born:=fun k hk=>by simp[Array.getD,hk]
 rw[<-g i hi,<-g j hj] at e;have hp:=List.pairwise_iff_getElem.1 hn;rcases Nat.lt_trichotomy i j with h|h|h
 ·exact absurd e (hp i j (by rw[hl];exact hi) (by rw[hl];exact hj) h)
 ·exact h
 ·exact absurd e.symm (hp j i (by rw[hl];exact hj) (by rw[hl];exact hi) h)
theorem aiC {K:aV}{T:Nat->Nat}{w:World}{v c:Value}(h:Rel K T w (.raw v) c):c=v:=by cases h;rfl
theorem asI {w w1:World}{r:Nat}{o:Obj}(h:w1=w\/w1=w.drew):Only r w (Go.ChangeMaps.setBlock w1 r o):=by
 have e:w1.heap=w.heap/\w1.os=w.os/\w1.tape=w.tape/\w1.output=w.output:=by rcases h with rfl|rfl<;>exact⟨rfl,rfl,rfl,rfl⟩
 refine⟨e.2.1,e.2.2.1,e.2.2.2,?_,fun k hk hlt=>?_,by rcases h with rfl|rfl;exact RS _;exact kD _⟩
 ·show w.heap.size<=(w1.heap.setIfInBounds r o).size
  rw[e.1,Array.size_setIfInBounds];exact RS _
 ·show (w1.heap.setIfInBounds r o)[k]? =w.heap[k]?
  rw[e.1,Array.getElem?_setIfInBounds_ne (Ne.symm hk)]
theorem asJ {w w1:World}{r:Nat}{o o':Obj}(h:w1=w\/w1=w.drew)(hr:w.heap[r]? =some o'):(Go.ChangeMaps.setBlock w1 r o).heap[r]? =some o:=by
 have hlt:r<w.heap.size:=lt_of_heap hr;have e:w1.heap=w.heap:=by rcases h with rfl|rfl<;>rfl
 show (w1.heap.setIfInBounds r o)[r]? =some o;rw[e,Array.getElem?_setIfInBounds_self_of_lt hlt]
theorem asK {l:List Nat}{n i:Nat}(hn:l.Nodup)(hl:∀j∈l,j<n)(hi:i∉l)(h:i<n):l.length<n:=by
 have h1:(i::l).Nodup:=Ad.2 ⟨hi,hn⟩;have:=h1.length_le_of_subset (l₂:=List.range n) fun j hj=>by
  rcases iC.1 hj with rfl|hj
  ·exact List.mem_range.2 h
  ·exact List.mem_range.2 (hl j hj)
 rw[List.length_range] at this;exact this
theorem dM.rangeMap (hE:kX E){N:Nat}{i0 i1 i2 out aiD:Nat}{zG uy FW:Array Oper}{body:Code}{it nx more pair k0 m2:Nat}{o0 o1 o2:Oper}{t kt et:TypeId}{x:Operand}{kH:Fr}{gZ:au}{loc:Loc}{st:Nat}{ks vs:List V}{J:List (V×V)->Fr->au->Prop}{Q:Ex->Fr->au->Prop}(h0:opsL E (dX E N) zG.toList σ.next (List.range k0) fr {σ with next:=σ.next+zG.size}=some (kH,gZ))(aaG:zG.size=k0+1)(NV:zG[k0]? =some o0)(aaH:o0.guard=none)(NW:o0.op= .range t x)(NY:o0.dst=some it)(hx:kH.ev E x= .dJ loc st)(hm:gZ.obj loc=some (st,.map ks vs))(hu:E.P.underlying t=some (.map kt et))(wS:uy.size=2)(FX:uy[0]? =some o1)(NZ:o1.guard=none)(FY:o1.op= .next (.tmp it) false)(h1d:o1.dst=some nx)(N7:∀(fr:Fr) (σ:au) base b l,opsL E (dX E N) uy.toList base (List.range' 1 1) (fr.put (some nx) (.bq (.bool b::l))) σ=some ((fr.put (some nx) (.bq (.bool b::l))).put (some more) (.bool b),σ))(asL:FW.size=m2+1)(aiE:FW[0]? =some o2)(asM:o2.guard=none)(aiF:o2.op= .entry (.tmp it))(aaI:o2.dst=some pair)(hne:it≠nx/\it≠more/\it≠pair)(hJ0:∀p,J [] (kH.put (some it) (.raw p)) (gZ.eG loc))(hJ:∀done fr σ k v,J done fr σ->(k,v)∈ks.zip vs->done.length< (ks.zip vs).length->∃fT σ2,opsL E (dX E N) FW.toList (σ.next+2) (List.range' 1 m2) (((fr.put (some nx) (.bq [.bool true,k,v])).put (some more) (.bool true)).put (some pair) (.bq [k,v])) {σ with next:=σ.next+2+FW.size}=some (fT,σ2)/\fT.tm it=fr.tm it/\
   dM E body fT σ2 fun e qo σ3=>e= .normal/\qo.tm it=fr.tm it/\J (done++[(k,v)]) qo σ3)(hQ:∀done fr σ,J done fr σ->done.Perm (ks.zip vs)->Q .normal ((fr.put (some nx) (.bq [.bool false])).put (some more) (.bool false)) {σ with next:=σ.next+2}):
 dM E (.seq (.region i0 zG false) (.block out (.loop (.seq (.region i1 uy false) (.seq (.cond (.tmp more) .skip (.exit out)) (.block aiD (.seq (.region i2 FW false) body))))))) fr σ Q:=by
 have hS:=Ij hE N;intro ro B0 K w a n ds hs hok hnr;simp only[jg,iP] at hok;obtain⟨hok0,hok1,_,hok2,aaJ⟩:=hok;simp only[lG,iP,true_and] at hnr;have hdst:∀{ops:Array Oper}{j:Nat}{o:Oper}{d:Nat},xP n ops.toList=true->ops[j]? =some o->o.dst=some d->d<n:=by intro ops j o d hok ho hd;simp only[xP,kM] at hok;have:=hok o (Array.mem_toList_iff.2 (Array.mem_of_getElem? ho));rw[hd] at this;simpa using this
 have hnd:∀{o:Oper}{p:Op},o.op=p->(∀c,p≠ .defer c)->∀c,o.op≠ .defer c:=fun h hp c=>by rw[h];exact hp c
 have aaK:=hdst hok0 NV NY;have adH:=hdst hok1 FX h1d;have asN:=hdst hok2 aiE aaI;have aaL:=BJ hS _ _ _ _ _ h0;simp only at aaL;refine wpIn_seq ?_;refine aaF hE hS aaG NV aaH (hnd NW aC) h0 hs hok0 (fun a1 K1 w1 s1 st1=>?_);obtain⟨hA,⟨hb0,es,bR,g1,g2,g3,g4,g5,g6⟩,hρ⟩:=s1.ok.obj _ _ _ hm;have hev:=xR s1.ok s1.fr x;rw[hx] at hev;generalize hcx:a1.eval x=cx at hev;cases hev with|dJ _ _ hA'=>
 refine⟨.pointer (some ⟨w1.heap.size,0,none⟩),w1.alloc (.mapIter (some (K1.blk st)) bR #[] bR),?_,?_⟩
 ·unfold execOp
  simp only[NW,hcx,Sem.run_bind,Sem.run_pure,Go.run_range_map w1 t kt et (K1.blk st) es bR hu g1,Result.andThen_ok]
 have st2:=Step.iterate (new:=fun _=>False) s1.ok s1.hB hm g1;have asO:K1.blk st<w1.heap.size:=lt_of_heap g1;generalize hK2:({K1 with IM:=fun b=>K1.IM b\/b=K1.blk st\/b=w1.heap.size,ρ:=upd K1.ρ (K1.blk st) none}:aV)=K2 at st2;have UC:K2.IM (K1.blk st)/\K2.IM w1.heap.size:=by subst hK2;exact⟨.inr (.inl rfl),.inr (.inr rfl)⟩
 have hA2:∀s,K2.A s->K1.A s:=by subst hK2;exact fun _ h=>h
 have hw2:(w1.alloc (.mapIter (some (K1.blk st)) bR #[] bR)).heap[w1.heap.size]? =some (.mapIter (some (K1.blk st)) bR #[] bR):=heap_alloc_new ..;have hm2:(w1.alloc (.mapIter (some (K1.blk st)) bR #[] bR)).heap[K1.blk st]? =some (.map es bR):=(heap_alloc_old asO).trans g1;generalize aBC:K1.blk st=bm at*;generalize hrd:w1.heap.size=r at*;generalize asP:w1.alloc (.mapIter (some bm) bR #[] bR)=w2 at*;have s2:St E B0 (gZ.eG loc) K2 w2 (kH.put (some it) (.raw (.pointer (some ⟨r,0,none⟩)))) (a1.put (some it) (.pointer (some ⟨r,0,none⟩))) n ds:=s1.put st2 (.raw _) (fun i hi=>by cases hi;exact aaK) (fun s hs'=>s1.st s (hA2 s hs'));have stA:Step E B0 (newer σ gZ) σ K w (gZ.eG loc) K2 w2:=st1.trans (st2.mono (fun _ h=>h.elim));have hr0:w.heap.size<=r:=by rw[<-hrd];exact st1.below.size
 rw[NY];show (Code.block out _).wpIn (lW ro) 0 E.P _ _ _;refine wpIn_block ?_;refine YK (fun cnt a' w'=>∃(is:List Nat) (fr':Fr) (σ':au) (K':aV),St E B0 σ' K' w' fr' a' n ds/\σ.next<=σ'.next/\Step E B0 (newer σ σ') σ K w σ' K' w'/\K'.IM bm/\w'.heap[bm]? =some (.map es bR)/\K'.IM r/\w'.heap[r]? =some (.mapIter (some bm) bR (wR es is) bR)/\
  (∀i,i<es.size->Rel K' σ'.top w' (ks.getD i aK) (es.getD i default).key/\Rel K' σ'.top w' (vs.getD i aK) (es.getD i default).val)/\is.Nodup/\(∀i∈is,i<es.size)/\fr'.tm it= .raw (.pointer (some ⟨r,0,none⟩))/\J (is.map fun i=>(ks.getD i aK,vs.getD i aK)) fr' σ'/\(leftOf es (wR es is)).size=cnt) (leftOf es #[]).size ?_ ?_
 ·refine⟨[],_,_,K2,s2,?_,stA,UC.1,hm2,UC.2,hw2,fun i hi=>⟨(g5 i hi).ext st2.ext,(g6 i hi).ext st2.ext⟩,List.nodup_nil,fun i hi=>(by cases hi),?_,hJ0 _,rfl⟩
  ·show σ.next<=gZ.next;omega
  ·show upd kH.tm it _ it=_
   exact upd_same _ _ _
 intro cnt a' w' ⟨is,fr',σ',K',s3,zH,pz,m1,UD,m3,m4,m5,m6,m7,m8,m9,m10⟩;have hit:a'.eval (.tmp it)= .pointer (some ⟨r,0,none⟩):=by have:=s3.fr it;rw[m8] at this;exact aiC this
 have hold:∀y∈es.toList,y.born<bR:=fun y hy=>g2.1 _ (EF.2 ⟨y,hy,rfl⟩);refine wpIn_seq ?_;have N8:∀{cv:Value}{w3:World},(Instr.next (.pointer (some ⟨r,0,none⟩)) false o1.type).run E.P w'= .ok cv w3->(execOp a'.eval o1).run E.P w'= .ok (.value cv) w3:=by intro cv w3 h;unfold execOp;simp only[FY,hit,Sem.run_bind,Sem.run_pure,h,Result.andThen_ok]
 have N9:∀{om:aV}{w4:World}{Oa:Fr}{a4:Act}(k:Nat),St E B0 σ' om w4 Oa a4 n ds->St E B0 {σ' with next:=σ'.next+k} om w4 Oa a4 n ds:=fun k h=>⟨Mj h.ok _,h.hB,h.fr,h.sz,h.df,fun s hs=>iq (h.st s hs) (gD _ _),h.hD⟩;rcases run_next_at (P:=E.P) w' o1.type r bm bR bR (wR es is) es bR m4 UD hold (RS _) with ⟨hz,hrun⟩| ⟨e,he,wt,hwt,hrun⟩
 ·
  refine NU (B0:=B0) (ds:=ds) (fr:=fr') hE hS (m:=1) (by rw[wS]) FX NZ (hnd FY aC) hok1 (N8 hrun) (v:=.bq [.bool false]) (K2:=K') (σ2:={σ' with next:=σ'.next+uy.size}) ?_ rfl (fun s hs=>s3.st s hs) (by rw[h1d];exact N7 _ _ _ false []) (fun _ a4 om w4 s4 nW=>?_)
  ·rw[h1d]
   refine N9 _ (s3.put (Step.refl (new:=fun _=>False) s3.ok) ?_ (fun i hi=>Rz) s3.st);exact .bq _ _ rfl fun i hi=>by have:i=0:=GV;subst this;exact .bool false
  ·refine wpIn_seq ?_
   have hmo:a4.eval (.tmp more)= .bool false:=by have:=s4.fr more;rw[show (((fr'.put (some nx) (.bq [.bool false])).put (some more) (.bool false)).tm more)= .bool false from upd_same _ _ _] at this;generalize hc:a4.tmps.getD more undef=c at this;cases this;exact hc
   refine wpIn_cond_false hmo (wpIn_exit ?_);simp only[Exit.then,Exit.inBlock,if_true];have hperm:(is.map fun i=>(ks.getD i aK,vs.getD i aK)).Perm (ks.zip vs):=by
    have hall:=all_seen es (wR es is) hz;have e1:ks.zip vs=(List.range es.size).map fun i=>(ks.getD i aK,vs.getD i aK):=by
     apply List.ext_getElem
     ·simp[g3,g4]
     ·intro i h1 h2
      simp only[List.length_zip,g3,g4,Nat.min_self] at h1;simp[List.getD,g3,g4,h1]
    rw[e1];refine List.Perm.map _ ((List.perm_ext_iff_of_nodup m6 List.nodup_range).2 fun i=>⟨fun h=>List.mem_range.2 (m7 i h),fun h=>?_⟩);have hi:=List.mem_range.1 h;have hmem:es.getD i default∈es.toList:=(by have:es.getD i default=es[i]:=(by simp[Array.getD,hi]);rw[this];simp);obtain⟨j,hj,hb⟩:=aiB.1 (hall _ hmem);rw[<-born_inj g2 (m7 j hj) hi hb];exact hj
   have hq:=hQ _ _ _ m9 hperm;have aaM:Step E B0 (newer σ {σ' with next:=σ'.next+2}) σ K w {σ' with next:=σ'.next+2} om w4:=by have a1:=pz.mono (new':=newer σ {σ' with next:=σ'.next+2}) (fun s hs=>⟨hs.1,iq hs.2 (gD _ _)⟩);have a2:Step E B0 (newer σ {σ' with next:=σ'.next+2}) σ' K' w' {σ' with next:=σ'.next+uy.size} om w4:=(by have:=nW.mono (new':=newer σ {σ' with next:=σ'.next+2}) (fun s hs=>⟨bZ zH hs.1,by have:=hs.2;rw[wS] at this;exact this⟩);exact⟨this.ok,this.ext,this.below,this.D,this.A,this.qh,this.qj⟩);rw[wS] at a2;exact a1.trans a2
   rw[wS] at s4;exact⟨.normal,_,_,bZ zH (gD _ _),hq,trivial,om,s4,aaM⟩
 ·
  obtain⟨hem,hes⟩:=mem_left he;obtain⟨i,hi,hie⟩:∃i,∃hi:i<es.size,es[i]=e:=by obtain⟨i,hi,h⟩:=List.getElem_of_mem hem;exact⟨i,jI,Bt⟩
  have hgd:es.getD i default=e:=by rw[<-hie];simp[Array.getD,hi]
  have hnot:i∉is:=fun hin=>by have:=(aiB (es:=es) (b:=e.born)).2 ⟨i,hin,by rw[hgd]⟩;rw[hes] at this;cases this
  have ho:=asI (w:=w') (r:=r) (o:=.mapIter (some bm) bR ((wR es is).push e.born) bR) hwt;have hr':=asJ (o:=.mapIter (some bm) bR ((wR es is).push e.born) bR) hwt m4;generalize Go.ChangeMaps.setBlock wt r (.mapIter (some bm) bR ((wR es is).push e.born) bR)=w5 at*;have hbr:bm≠r:=aaE m4 UD (fun e=>e);have aiG:w5.heap[bm]? =some (.map es bR):=(ho.block bm hbr (lt_of_heap UD)).trans UD;have hk:=(m5 i hi).1.turn m4 ho;have hv:=(m5 i hi).2.turn m4 ho;rw[hgd] at hk hv;have s5:St E B0 σ' K' w5 fr' a' n ds:=⟨s3.ok.turn m4 ho hr',bZ s3.hB ho.size,s3.fr.turn m4 ho,s3.sz,s3.df,s3.st,bZ s3.hD ho.size⟩;have UE:Step E B0 (newer σ σ') σ K w σ' K' w5:=pz.turn hs.ok hs.hB hr0 m4 ho hr';refine NU (B0:=B0) (ds:=ds) (fr:=fr') hE hS (m:=1) (by rw[wS]) FX NZ (hnd FY aC) hok1 (N8 hrun) (v:=.bq [.bool true,ks.getD i aK,vs.getD i aK]) (K2:=K') (σ2:={σ' with next:=σ'.next+uy.size}) ?_ rfl (fun s hs=>s3.st s hs) (by rw[h1d];exact N7 _ _ _ true [ks.getD i aK,vs.getD i aK]) (fun _ a4 om w4 s4 nW=>?_)
  ·rw[h1d]
   refine N9 _ (s5.put (Step.refl (new:=fun _=>False) s5.ok) ?_ (fun i hi=>Rz) s5.st);refine .bq _ _ rfl fun j hj=>?_
   match j,hj with
   |0,_=>exact .bool true|1,_=>exact hk|2,_=>exact hv
  ·rw[wS] at s4 nW
   have aad:=nW.ext.IM bm m1;have aiH:=nW.ext.IM r m3;refine wpIn_seq ?_;have hmo:a4.eval (.tmp more)= .bool true:=by have:=s4.fr more;rw[show (((fr'.put (some nx) (.bq [.bool true,ks.getD i aK,vs.getD i aK])).put (some more) (.bool true)).tm more)= .bool true from upd_same _ _ _] at this;generalize hc:a4.tmps.getD more undef=c at this;cases this;exact hc
   refine wpIn_cond_true hmo (wpIn_skip ?_);show (Code.block aiD _).wpIn (lW ro) 0 E.P _ a4 w4;refine wpIn_block (wpIn_seq ?_);obtain⟨aBD,asQ,q1,q2,q3⟩:=hJ _ _ _ (ks.getD i aK) (vs.getD i aK) m9 (by
    have hki:i<ks.length:=ah;have EP:i<vs.length:=ah;have:(ks.getD i aK,vs.getD i aK)=(ks.zip vs)[i]'(by rw[List.length_zip];omega):=(by simp[List.getD,hki,EP]);rw[this];exact lY _) (by
    rw[jS,List.length_zip,g3,g4,Nat.min_self];exact asK m6 m7 hnot hi)
   have asR:a4.eval (.tmp it)= .pointer (some ⟨r,0,none⟩):=by have:=s4.fr it;rw[show (((fr'.put (some nx) (.bq [.bool true,ks.getD i aK,vs.getD i aK])).put (some more) (.bool true)).tm it)=fr'.tm it from (upd_ne _ _ hne.2.1).trans (upd_ne _ _ hne.1),m8] at this;exact aiC this
   have asS:(execOp a4.eval o2).run E.P w4= .ok (.value (.tuple #[e.key,e.val])) w4:=by have:=run_entry_at (P:=E.P) w4 r bm bR (wR es is) es bR e (aiH.2.trans hr') (aad.2.trans aiG) hem g2.2;unfold execOp;simp only[aiF,asR,Sem.run_bind,Sem.run_pure,this,Result.andThen_ok]
   have hk4:=hk.ext nW.ext;have hv4:=hv.ext nW.ext;refine NU (B0:=B0) (ds:=ds) (fr:=(fr'.put (some nx) (.bq [.bool true,ks.getD i aK,vs.getD i aK])).put (some more) (.bool true)) (σ:={σ' with next:=σ'.next+2}) hE hS (m:=m2) asL aiE asM (hnd aiF aC) hok2 asS (v:=.bq [ks.getD i aK,vs.getD i aK]) (K2:=om) (σ2:={σ' with next:=σ'.next+2+FW.size}) ?_ rfl (fun s hs=>s4.st s hs) (by rw[aaI];exact q1) (fun asT a7 aiI w7 s7 aaN=>?_)
   ·rw[aaI]
    have s8:St E B0 {σ' with next:=σ'.next+2+FW.size} om w4 ((fr'.put (some nx) (.bq [.bool true,ks.getD i aK,vs.getD i aK])).put (some more) (.bool true)) a4 n ds:=⟨Mj s4.ok _,s4.hB,s4.fr,s4.sz,s4.df,fun s hs=>iq (s4.st s hs) (gD _ _),s4.hD⟩;refine s8.put (Step.refl (new:=fun _=>False) s8.ok) ?_ (fun i hi=>by cases hi;exact asN) s8.st;refine .bq _ _ rfl fun j hj=>?_
    match j,hj with
    |0,_=>exact hk4|1,_=>exact hv4
   ·simp only at asT
    have aaO:ro=none/\ds.nm=false\/lG body=true:=hnr.imp id (fun h=>h);refine wpIn_mono (q3 ro B0 aiI w7 a7 n ds s7 aaJ aaO) ?_;rintro z a9 aaP ⟨e9,UF,qH,aaQ,⟨rfl,q4,q5⟩,UG,JF,s9,Ob⟩;cases z<;>simp only[lM] at UG;show∃n',n'<cnt/\_;have FZ:Step E B0 (newer σ' qH) σ' K' w5 qH JF aaP:=(by have a1:Step E B0 (newer σ' qH) σ' K' w5 {σ' with next:=σ'.next+2} om w4:=(by have:=nW.mono (new':=newer σ' qH) (fun s hs=>⟨hs.1,by have:=hs.2;simp only at this;omega⟩);exact⟨this.ok,this.ext,this.below,this.D,this.A,this.qh,this.qj⟩);have a2:Step E B0 (newer σ' qH) {σ' with next:=σ'.next+2} om w4 asQ aiI w7:=(by have:=aaN.mono (new':=newer σ' qH) (fun s hs=>⟨by have:=hs.1;simp only at this;omega,iq hs.2 aaQ⟩);exact⟨this.ok,this.ext,this.below,this.D,this.A,this.qh,this.qj⟩);have a3:=Ob.mono (new':=newer σ' qH) (fun s hs=>⟨by have:=hs.1;omega,hs.2⟩);exact(a1.trans a2).trans a3);have F3:σ'.next<=qH.next:=ah;refine⟨_,?_,is++[i],UF,qH,JF,s9,bZ zH F3,UE.widen FZ zH F3,(FZ.ext.IM bm m1).1,(FZ.ext.IM bm m1).2.trans aiG,(FZ.ext.IM r m3).1,?_,fun j hj=>⟨((m5 j hj).1.turn m4 ho).ext FZ.ext,((m5 j hj).2.turn m4 ho).ext FZ.ext⟩,?_,?_,q4.trans m8,?_,rfl⟩
    ·rw[aiA,hgd,<-m10]
     exact left_shrinks es _ e he
    ·rw[aiA,hgd]
     exact(FZ.ext.IM r m3).2.trans hr'
    ·exact List.nodup_append.2 ⟨m6,List.pairwise_singleton _ _,fun a ha b hb=>by rw[iX.1 hb];rintro rfl;exact hnot ha⟩
    ·intro j hj
     rcases oW.1 hj with hj|hj
     ·exact m7 j hj
     ·rw[iX.1 hj];exact hi
    ·rw[oV,List.map_singleton];exact q5
end
section
variable (E:Env)
end
section
variable {E:Env}{K K':aV}{w w':World}{σ σ':au}{B0:Nat}
end
section
variable (E:Env)
def mD (fn:Func):Ex×Fr×au->Option (V×au)
 | (e,fr,σ)=>match e with
 |.exit _=>none|_=>(fn.results.toList.mapM (lJ E fr σ)).map fun vs=>(JD vs,σ)
end
section
variable {E:Env}{K K':aV}{w w':World}{σ σ':au}{B0:Nat}
end
variable {E:Env}
theorem aiJ {f:FuncId}{args:List V}{v:V}{fn:Func}{c:Code}(hfn:E.P.funcs[f]? =some fn)(hc:fn.body=some c)(hlen:args.length<=fn.ntmps)(aaR:jg fn.ntmps c=true)(h:dM E c {d:=1,aj:=E.aj f,tm:=fun i=>args.getD i aK} au.init fun e bT σ1=>(e= .normal\/e= .ret)/\∃vs,fn.results.toList.mapM (lJ E bT σ1)=some vs/\bn 20 σ1 (JD vs)=some v):qY E f args v:=by
 refine⟨⟨fn,c,hfn,hc⟩,fun I IM w bV hl hr=>?_⟩;have hs:=R9 hl;have hr':RelA (aV.lend I IM) au.init.top w args bV:=hr;have wT:=aix (E:=E) (f:=f) (d:=1) (fn:=fn) hs (RS w.heap.size) (fun s hs=>hs.elim) hr' hlen;have hst:St E w.heap.size au.init (aV.lend I IM) w {d:=1,aj:=E.aj f,tm:=fun i=>args.getD i aK} {tmps:=bV++Array.replicate (fn.ntmps-bV.size) undef,defers:=[]} fn.ntmps ⟨[],w.heap.size,false⟩:=
  ⟨wT.ok,wT.hB,wT.fr,wT.sz,⟨[],rfl,List.nodup_nil,(fun b hb=>by cases hb),fun _=>rfl⟩,wT.st,wT.hD⟩
 have hwp:=h none _ _ w _ fn.ntmps ⟨[],w.heap.size,false⟩ hst aaR (.inl ⟨rfl,rfl⟩);refine callsIn_of_wp_marks hfn hc trivial (wpIn_mono hwp ?_);rintro x a' w' ⟨e,bT,σ1,_,⟨hne,vs,hvs,hzv⟩,hx,K',hs',st'⟩;have hleave:LeavesInM Fence.wide 0 E.P fn a'.tmps (aeC I IM w v) a'.defers .returning w':=by
  obtain⟨bs,d1,d2,d3,_⟩:=hs'.df;rw[d1,lF];refine YL (B1:=w.heap.size) (RS _) (aV.lend I IM).D bs K' w' hs'.ok hs'.hB d2 d3 st'.D (fun b hb=>lt_of_heap (hs.D b hb)) (fun w1 wz=>?_);have wB:=wz.ok;have hf2:kF {K' with D:=(aV.lend I IM).D} σ1.top w1 bT a'.tmps:=by have e1:Ext K' σ1.top w' {K' with D:=(aV.lend I IM).D} σ1.top w1:=(Ih K' σ1.top w' (aV.lend I IM).D).trans wz.ext;exact hs'.fr.ext e1
  obtain⟨cv,r1,r2⟩:=aiw wB hf2 hvs;have Di:Step E w.heap.size (newer au.init σ1) au.init (aV.lend I IM) w σ1 {K' with D:=(aV.lend I IM).D} w1:=
   ⟨wB,st'.ext.trans ((Ih K' σ1.top w' (aV.lend I IM).D).trans wz.ext),st'.below.trans wz.below,fun _ h=>h,st'.A,st'.qh,st'.qj⟩
  refine⟨cv,r1,Di.below,?_⟩;have:=Yk (T':=fun _=>0) wB 20 _ v cv r2 hzv;refine this.Me (fun b o hi=>⟨⟨?_,hi.2⟩,rfl⟩) (fun b hi=>⟨⟨?_,hi.2⟩,rfl⟩)
  ·rcases hi.1 with h1|h1
   ·exact Di.qh b o h1
   ·exact .inr h1
  ·rcases hi.1 with h1|h1
   ·exact Di.qj b h1
   ·exact .inr h1
 rcases hne with rfl|rfl<;>cases x<;>simp only[lM] at hx<;>exact hleave
end aY
end
section
namespace aY
open Go Go.RowKit
section
variable {E:Env}{S:l5}{B0 n:Nat}{σ σ' σ1:au}{K K':aV}{w w':World}{fr fr' bT:Fr}{a:Act}{ds:Dc}{ro:Option Nat}
theorem asU {P:Program}{w:World}(op:BinOp)(t:TypeId)(ox oy:Operand){e:TypeId}(hu:P.underlying t=some (.slice e)){ad UH:Option Addr}{n c n' c':Nat}:(eqGuard op t ox oy (.slice ad n c) (.slice UH n' c')).run P w= .ok () w:=by
 have hg0:∀d,(Go.Op.eqGuardIn (d+1) t (.slice ad n c) (.slice UH n' c')).run P w= .ok false w:=fun d=>by simp[Go.Op.eqGuardIn,run_underlying hu]
 have hg:(Go.Op.eqGuardIn Go.Op.maxDepth t (.slice ad n c) (.slice UH n' c')).run P w= .ok false w:=hg0 9999;unfold eqGuard;generalize Go.Op.eqGuardIn Go.Op.maxDepth t (.slice ad n c) (.slice UH n' c')=s at hg⊢;cases op<;>simp[hg]
theorem dM.aiK {c:Operand}{x y:Code}{t:Bool}{Q:Ex->Fr->au->Prop}(hc:fr.ev E c= .bool t)(h:dM E (if t then x else y) fr σ Q):dM E (.cond c x y) fr σ Q:=by
 intro ro B0 K w ac n ds hs hok hnr;simp only[jg,iP] at hok;simp only[lG,iP] at hnr;refine wpIn_cond (Ye (xR hs.ok hs.fr c) (show xJ (fr.ev E c)=some t by rw[hc];rfl)) (h ro B0 K w ac n ds hs ?_ ?_)
 ·cases t
  ·exact hok.2
  ·exact hok.1
 ·cases t
  ·exact hnr.imp id And.right
  ·exact hnr.imp id And.left
theorem dM.aiL (hE:kX E){N id k:Nat}{ops:Array Oper}{o:Oper}{t:Nat}{ty e aiM:TypeId}{x:Operand}{c:Cap}{Q:Ex->Fr->au->Prop}(hsz:ops.size=k+1)(ho:ops[k]? =some o)(hg:o.guard=none)(hop:o.op= .binOp .eql ty x (.const (.slice none 0 0)) aiM)(hd:o.dst=some t)(hpre:opsL E (dX E N) ops.toList σ.next (List.range k) fr {σ with next:=σ.next+ops.size}=some (bT,σ1))(hu:E.P.underlying ty=some (.slice e))(hv:bT.ev E x= .ay c [])(hQ:∀b,Q .normal (bT.put (some t) (.bool b)) σ1):dM E (.region id ops false) fr σ Q:=by
 intro ro B0 K w a n ds hs hok hnr;have hS:=Ij hE N;have hnx:=BJ hS _ _ _ _ _ hpre;simp only at hnx;have hok':xP n ops.toList=true:=hok;have dt:t<n:=by have:=kM.1 hok' o (by rw[Array.mem_toList_iff];exact Array.mem_of_getElem? ho);rw[hd] at this;exact of_decide_eq_true this
 refine aaF hE hS hsz ho hg (by intro d hh;rw[hop] at hh;cases hh) hpre hs hok' (fun a1 K1 w1 s1 st1=>?_);have hev:=xR s1.ok s1.fr x;rw[hv] at hev;have hsl:∃ad n' cap,a1.eval x= .slice ad n' cap:=by
  generalize a1.eval x=cx at hev;generalize hll:([]:List V)=ll at hev;cases hev with
  |fu=>exact⟨_,_,_,rfl⟩|ay=>exact⟨_,_,_,rfl⟩
 obtain⟨ad,n',cap,hcx⟩:=hsl;refine⟨.bool ad.isNone,w1,?_,.normal,bT.put (some t) (.bool ad.isNone),σ1,ah,hQ _,trivial,K1,?_,st1⟩
 ·unfold execOp
  simp only[hop];rw[hcx];have hce:a1.eval (.const (.slice none 0 0))= .slice none 0 0:=rfl;rw[hce];simp only[Sem.run_bind,Sem.run_pure,asU .eql ty x (.const (.slice none 0 0)) hu,Go.Lib.run_eql_slice_nil w1 ty e ad n' cap 0 0 hu,Result.andThen_ok]
 ·rw[hd]
  exact s1.put (new:=fun _=>False) (.refl s1.ok) (.bool _) (fun i hi=>by cases hi;exact dt) s1.st
end
section
variable {E:Env}
def UJ (P:Program)(glob:Nat->Option (List V))(f:FuncId):Prop:=∀(E:Env),E.P=P->E.glob=glob->∀I IM w bV,Ap E I IM w->RelA (aV.lend I IM) (fun _=>0) w [.ay .sh []] bV->CallsIn Fence.wide 0 P f bV w (fun e w'=>∃ad,e= .returned (.slice ad 0 0)/\Below w.heap.size w w')
theorem Ap.env {E E':Env}{I:Nat->Nat->Prop}{IM:Nat->Prop}{w:World}(hg:E'.glob=E.glob)(h:Ap E I IM w):Ap E' I IM w:=⟨h.1,h.2.1,fun g cs hh=>h.2.2 g cs (by rw[<-hg];exact hh)⟩
theorem aiN {f:FuncId}{fn:Func}{c:Code}(hfn:E.P.funcs[f]? =some fn)(hc:fn.body=some c)(hlen:1<=fn.ntmps)(aaR:jg fn.ntmps c=true)(h:dM E c {d:=1,aj:=E.aj f,tm:=fun i=>([.ay .sh []]:List V).getD i aK} au.init fun e bT σ1=>(e= .normal\/e= .ret)/\∃v,fn.results.toList.mapM (lJ E bT σ1)=some [v]/\(v= .ay .nil []\/v= .ay .full [])):UJ E.P E.glob f:=by
 intro E' hP hg I IM w bV hl' hr;have hl:Ap E I IM w:=hl'.env hg.symm;have hs:=R9 hl;have hr':RelA (aV.lend I IM) au.init.top w [.ay .sh []] bV:=hr;have wT:=aix (E:=E) (f:=f) (d:=1) (fn:=fn) hs (RS w.heap.size) (fun s hs=>hs.elim) hr' hlen;have hst:St E w.heap.size au.init (aV.lend I IM) w {d:=1,aj:=E.aj f,tm:=fun i=>([.ay .sh []]:List V).getD i aK} {tmps:=bV++Array.replicate (fn.ntmps-bV.size) undef,defers:=[]} fn.ntmps ⟨[],w.heap.size,false⟩:=
  ⟨wT.ok,wT.hB,wT.fr,wT.sz,⟨[],rfl,List.nodup_nil,(fun b hb=>by cases hb),fun _=>rfl⟩,wT.st,wT.hD⟩
 have hwp:=h none _ _ w _ fn.ntmps ⟨[],w.heap.size,false⟩ hst aaR (.inl ⟨rfl,rfl⟩);refine callsIn_of_wp_marks hfn hc trivial (wpIn_mono hwp ?_);rintro x a' w' ⟨e,bT,σ1,_,⟨hne,v,hvs,hv⟩,hx,K',hs',st'⟩;have hleave:LeavesInM Fence.wide 0 E.P fn a'.tmps (fun e w'=>∃ad,e= .returned (.slice ad 0 0)/\Below w.heap.size w w') a'.defers .returning w':=by
  obtain⟨bs,d1,d2,d3,_⟩:=hs'.df;rw[d1,lF];refine YL (B1:=w.heap.size) (RS _) (aV.lend I IM).D bs K' w' hs'.ok hs'.hB d2 d3 st'.D (fun b hb=>lt_of_heap (hs.D b hb)) (fun w1 wz=>?_);have wB:=wz.ok;have hf2:kF {K' with D:=(aV.lend I IM).D} σ1.top w1 bT a'.tmps:=by have e1:Ext K' σ1.top w' {K' with D:=(aV.lend I IM).D} σ1.top w1:=(Ih K' σ1.top w' (aV.lend I IM).D).trans wz.ext;exact hs'.fr.ext e1
  obtain⟨cv,r1,r2⟩:=aiw wB hf2 hvs;have hb:Below w.heap.size w w1:=st'.below.trans wz.below;have r2':Rel {K' with D:=(aV.lend I IM).D} σ1.top w1 v cv:=r2;have hcv:∃ad,cv= .slice ad 0 0:=by
   rcases hv with rfl|rfl
   ·cases r2' with
    |fu=>exact⟨_,rfl⟩|ay _ _ b o n cap val hle hn hcell hrel hc=>exact hc.elim
   ·cases r2' with
    |fu=>exact⟨_,rfl⟩|ay _ _ b o n cap val hle hn hcell hrel hc=>have hc':cap=0:=hc;subst hc';exact⟨_,rfl⟩
  obtain⟨ad,rfl⟩:=hcv;exact⟨_,r1,ad,rfl,hb⟩
 rcases hne with rfl|rfl<;>cases x<;>simp only[lM] at hx<;>exact hleave
def DW:List V->Option V
 | [.ay _ []]=>some (.ay .full [])|_=>none
theorem UK {P:Program}{glob:Nat->Option (List V)}{f:FuncId}(h:UJ P glob f)(hb:Df E f)(hP:E.P=P)(hg:E.glob=glob)(hfl:∀g cs,E.glob g=some cs->bN cs=true){args:List V}{v:V}(hv:DW args=some v):
 Df E f/\∀ro B0 (σ:au) K w bV,bA E B0 σ K w->B0<=w.heap.size->(∀s,K.A s->s<σ.next)->RelA K σ.top w args bV->CallsIn (lW ro) 0 E.P f bV w (Ao E B0 σ K w v σ):=by
 refine⟨hb,fun ro B0 σ K w bV hs hB hA hr=>?_⟩;unfold DW at hv;split at hv
 ·rename_i c
  cases hv;have hl:Ap E (fun b o=>∃v,w.cell? (at_ b o)=some v) (fun b=>tX w b) w:=
   ⟨fun _ _ hi=>hi,fun _ hi=>hi,fun g cs hg=>(hs.glob g cs hg).pure (by simpa [aU] using hfl g cs hg) (fun b o hi=>⟨(hs.I b o hi).1,rfl⟩) (fun b hi=>⟨(hs.IM b hi).1,rfl⟩)⟩
  have hr':RelA (aV.lend (fun b o=>∃v,w.cell? (at_ b o)=some v) (fun b=>tX w b)) (fun _=>0) w [.ay .sh []] bV:=by
   obtain⟨h1,h2⟩:=hr;refine⟨h1,fun i hi=>?_⟩;cases i with
   |zero=>have:=R3 (h2 0 aC);exact this.pure rfl (fun b o hi=>⟨(hs.I b o hi).1,rfl⟩) (fun b hi=>⟨(hs.IM b hi).1,rfl⟩)
   |succ i=>simp at hi
  have hcall:CallsIn Fence.wide 0 E.P f bV w (fun e w'=>∃ad,e= .returned (.slice ad 0 0)/\Below w.heap.size w w'):=by rw[hP];exact h E hP hg _ _ w bV hl hr'
  have h2:CallsIn (lW ro) 0 E.P f bV w (fun e w'=>∃ad,e= .returned (.slice ad 0 0)/\Below w.heap.size w w'):=hcall;refine h2.mono ?_;rintro e w' ⟨ad,rfl,hb'⟩;have st:=Step.grow (new:=newer σ σ) hs hB hb';exact⟨_,.fu .full ad (fun h=>bC) trivial,st.ok,hA,st⟩
 ·cases hv
end
end aY
end
section
open Go Go.Proofs aY
namespace Sh
set_option maxRecDepth 100000
def Oc (n:Nat):List Nat->Bool
 | []=>false|m::l=>Nat.beq n m||Oc n l
def asV:List Nat:=[159,160,59,109,162,163,190,207,71,120,165,166,191,208,119,126,127]
def asW:List Nat:=[40,133,20,21,126,127,79,25]
def AX (g d:Nat):Bool:=(Nat.beq g 126&& Nat.beq d 28)||(Nat.beq g 127&& Nat.beq d 35)
def zI (f:Nat):Option (List V->Option V):=bif Nat.beq f 126||Nat.beq f 127 then some DW else none
def vH (s:FuncId->Option (List V->Option V))(k:FuncId->Option (List V->Option V)):Env:={P:=Tryz.prog,glob:=JC,imp:=fun f=>Oc f asV,aj:=fun f=>Oc f asW,qV:=s,own:=AX,LB:=fun _=>false,LC:=fun _=>false,cl:=k}
theorem asX:Tryz.prog.funcs.all (fun fn=>!(fn.name== "runtime.NumGoroutine"))=true:=aA
theorem aaS:Tryz.prog.follows .mixedOrders=true:=aA
theorem aaT (f:FuncId)(fn:Func)(h:Tryz.prog.funcs[f]? =some fn):fn.name≠ "runtime.NumGoroutine" :=fun hn=>by
 have h3:=Array.all_eq_true_iff_forall_mem.1 asX fn (Array.mem_of_getElem? h);rw[hn] at h3;exact absurd h3 eO
theorem es0:kX (vH (fun _=>none) fun _=>none):=⟨aaT,fun f g h=>bC,aaS,fun g cs h=>bC,fun f g h=>bC⟩
abbrev kH (f:Nat):Fr:={d:=1,aj:=(vH (fun _=>none) fun _=>none).aj f,tm:=fun i=>([.ay .sh []]:List V).getD i aK}
theorem aiO:UJ Tryz.prog JC 126:=by
 have hE:=es0;refine aiN (E:=vH (fun _=>none) fun _=>none) (fn:=Tryz.f126) (c:=Tryz.f126.body.getD .skip) Tryz.func126 aA (of_decide_eq_true aA) aA ?_;refine dM.seq (dM.cw hE ⟨0,.normal,_,_,rfl,?_⟩);refine dM.seq (dM.seq (dM.aiL (N:=0) (k:=1) (t:=4) hE rfl rfl rfl rfl rfl rfl asD rfl (fun b=>?_)));refine dM.aiK (t:=b) rfl ?_;cases b with
 |true=>exact dM.cw hE ⟨0,.ret,_,_,rfl,.inr rfl,_,rfl,.inl rfl⟩|false=>refine dM.cw hE ⟨0,.normal,_,_,rfl,?_⟩;exact dM.cw hE ⟨0,.ret,_,_,rfl,.inr rfl,_,rfl,.inr rfl⟩
theorem aiP:UJ Tryz.prog JC 127:=by
 have hE:=es0;refine aiN (E:=vH (fun _=>none) fun _=>none) (fn:=Tryz.f127) (c:=Tryz.f127.body.getD .skip) Tryz.func127 aA (of_decide_eq_true aA) aA ?_;refine dM.seq (dM.cw hE ⟨0,.normal,_,_,rfl,?_⟩);refine dM.seq (dM.seq (dM.aiL (N:=0) (k:=1) (t:=4) hE rfl rfl rfl rfl rfl rfl asE rfl (fun b=>?_)));refine dM.aiK (t:=b) rfl ?_;cases b with
 |true=>exact dM.cw hE ⟨0,.ret,_,_,rfl,.inr rfl,_,rfl,.inl rfl⟩|false=>refine dM.cw hE ⟨0,.normal,_,_,rfl,?_⟩;exact dM.cw hE ⟨0,.ret,_,_,rfl,.inr rfl,_,rfl,.inr rfl⟩
theorem asY (s:FuncId->Option (List V->Option V))(hs:∀f g,s f=some g->∀args v,g args=some v->qY (vH s zI) f args v):kX (vH s zI) where
 name:=aaT
 qV:=hs
 mixed:=aaS
 flat:=fun g cs h=>bC
 cl:=fun f g h args v hv=>by
  have h':(bif Nat.beq f 126||Nat.beq f 127 then some DW else none)=some g:=h;cases h1:Nat.beq f 126
  ·cases h2:Nat.beq f 127
   ·rw[h1,h2] at h';cases h'
   ·rw[h1,h2] at h'
    cases h';have:=xE h2;subst this;exact UK (E:=vH s zI) aiP ⟨Tryz.f127,Tryz.f127.body.getD .skip,Tryz.func127,aA⟩ rfl rfl (fun g cs h=>bC) hv
  ·rw[h1] at h'
   cases h';have:=xE h1;subst this;exact UK (E:=vH s zI) aiO ⟨Tryz.f126,Tryz.f126.body.getD .skip,Tryz.func126,aA⟩ rfl rfl (fun g cs h=>bC) hv
end Sh
end
section
open Go Go.Proofs aY
namespace aY
mutual
def veq:V->V->Bool
 |.int k n,.int k' n'=>if k=k' then if n=n' then true else false else false|.agg l,.agg m=>JG l m|.ay .sh l,.ay .sh m=>JG l m|.fn (.func f) [] [],.fn (.func g) [] []=>if f=g then true else false|_,_=>false
def JG:List V->List V->Bool
 | [],[]=>true|x::l,y::m=>match veq x y with
  |true=>JG l m|false=>false
 |_,_=>false
end
mutual
theorem asZ:∀(x y:V),veq x y=true->x=y:=by
 intro x y h;unfold veq at h;split at h
 ·split at h
  ·split at h
   ·simp_all
   ·cases h
  ·cases h
 ·rw[UL _ _ h]
 ·rw[UL _ _ h]
 ·split at h
  ·simp_all
  ·cases h
 ·cases h
theorem UL:∀(l m:List V),JG l m=true->l=m:=by
 intro l m h;unfold JG at h;split at h
 ·rfl
 ·split at h
  ·rename_i h1
   rw[asZ _ _ h1,UL _ _ h]
  ·cases h
 ·cases h
end
end aY
namespace Sh
set_option maxRecDepth 100000
abbrev as0:V:=.agg [.fn (.func 148) [] [],.fn (.func 150) [] []]
def UM:List V:=[as0,lv iB.v [⟨1,3,2⟩,⟨2,1,1⟩],.int .i64 2]
def JH:V:=lv iB.v [⟨2,1,1⟩,⟨1,3,2⟩]
def aiQ (args:List V):Option V:=match JG args UM with
 |true=>some JH|false=>none
def exS (f:Nat):Option (List V->Option V):=bif Nat.beq f 99 then some aiQ else none
theorem as1:xK (vH exS zI) (dX (vH exS zI) 900) 13 []=some (.bool true):=aA
theorem as2 (h:qY (vH exS zI) 99 UM JH):qY (vH exS zI) 13 [] (.bool true):=by
 have hE:kX (vH exS zI):=asY exS fun f g hf args v hv=>by
  unfold exS at hf;cases h1:Nat.beq f 99
  ·rw[h1,cond_false] at hf;cases hf
  ·rw[h1,cond_true] at hf
   cases hf;have:=xE h1;subst this;unfold aiQ at hv;split at hv
   ·rename_i he
    cases hv;rw[UL _ _ he];exact h
   ·cases hv
 exact Yl hE (Ij hE 900).call as1
end Sh
end
section
open Go Go.Proofs aY
namespace Sh
set_option maxRecDepth 100000
def aiR (f:Nat):Bool:=Nat.beq f 159||Nat.beq f 160||Nat.beq f 119||Nat.beq f 126||Nat.beq f 127||Nat.beq f 59||Nat.beq f 71||Nat.beq f 109||Nat.beq f 120||Nat.beq f 162||Nat.beq f 163||Nat.beq f 165||Nat.beq f 166||Nat.beq f 190||Nat.beq f 191||Nat.beq f 207||Nat.beq f 208
def aiS (f:Nat):Bool:=Nat.beq f 40||Nat.beq f 133||Nat.beq f 21||Nat.beq f 20||Nat.beq f 25||Nat.beq f 79||Nat.beq f 99||Nat.beq f 126||Nat.beq f 127
def aiT (g d:Nat):Bool:=bif Nat.beq g 182 then bf d [5,7] else bif Nat.beq g 127 then bf d [35] else bif Nat.beq g 126 then bf d [28] else false
def as3 (d:Nat):Nat:=bif d==159 then 35 else bif d==115 then 102 else d
def E0:Env:={P:=Tryz.prog,glob:=JC,imp:=aiR,aj:=aiS,qV:=fun _=>none,own:=aiT,LB:=fun _=>false,LC:=fun _=>false}
open Classical in
def F4:Option Bool:=if qY E0 13 [] (.bool true) then some true else none
def as4:List V->Option V
 | []=>F4.map V.bool|_::_=>none
def vI (i:Nat)(c:UInt8):Bool:=(decide (97<=c.toNat)&& decide (c.toNat<=122))||(!(i==0)&& ((decide (48<=c.toNat)&& decide (c.toNat<=57))||c.toNat==95))
def oO:Nat->List UInt8->Bool
 |_,[]=>true|i,c::l=>vI i c&& oO (i+1) l
def resv:List (List UInt8):=[[97,108,108],[97,110,100],[104,97,115],[105,110],[110,111,116],[111,114]]
def iU (s:List UInt8):Bool:=oO 0 s&& (decide (1<=s.length)&& (decide (s.length<=40)&& !(resv.contains s)))
open Classical in
def F5 (s:List UInt8):Option Bool:=if qY E0 168 [.str s] (.bool (iU s)) then some (iU s) else none
def aiU:List V->Option V
 | [.str s]=>(F5 s).map V.bool|_=>none
def aaU (f:Nat):Option (List V->Option V):=bif Nat.beq f 13 then some as4 else bif Nat.beq f 168 then some aiU else none
def E:Env:={P:=Tryz.prog,glob:=JC,imp:=aiR,aj:=aiS,qV:=aaU,own:=aiT,LB:=fun _=>false,LC:=fun _=>false,cl:=zI,cn:=as3}
theorem as5 {f:Nat}{args:List V}{v:V}(h:qY E f args v):qY E0 f args v:=h
theorem JI:kX E where
 name:=fun f fn h hn=>by
  have h1:Tryz.prog.funcs.all (fun fn=>!(fn.name== "runtime.NumGoroutine"))=true:=aA
  have h2:Tryz.prog.funcs[f]? =some fn:=h;have h3:=Array.all_eq_true_iff_forall_mem.1 h1 fn (Array.mem_of_getElem? h2);rw[hn] at h3;exact absurd h3 eO
 qV:=fun f g hf args v hv=>by
  have hf':aaU f=some g:=hf;unfold aaU at hf';cases h1:Nat.beq f 13
  ·rw[h1,cond_false] at hf'
   cases h3:Nat.beq f 168
   ·rw[h3] at hf';cases hf'
   ·rw[h3] at hf';cases hf'
    have e:=xE h3;subst e;unfold aiU at hv;split at hv
    ·obtain⟨y,hy,rfl⟩:=aZ.1 hv
     unfold F5 at hy;split at hy
     ·rename_i hp;cases hy;exact hp
     ·cases hy
    ·cases hv
  ·rw[h1] at hf';cases hf'
   have e:=xE h1;subst e;cases args with
   |nil=>
    obtain⟨y,hy,rfl⟩:=aZ.1 hv;unfold F4 at hy;split at hy
    ·rename_i hp;cases hy;exact hp
    ·cases hy
   |cons=>cases hv
 mixed:=aA
 flat:=fun g cs h=>bC
 cl:=fun f h g args v hv=>by
  have h':(bif Nat.beq f 126||Nat.beq f 127 then some DW else none)=some h:=g;cases h1:Nat.beq f 126
  ·cases h2:Nat.beq f 127
   ·rw[h1,h2] at h';cases h'
   ·rw[h1,h2] at h'
    cases h';have:=xE h2;subst this;exact UK (E:=E) aiP ⟨Tryz.f127,Tryz.f127.body.getD .skip,Tryz.func127,aA⟩ rfl rfl (fun g cs h=>bC) hv
  ·rw[h1] at h'
   cases h';have:=xE h1;subst this;exact UK (E:=E) aiO ⟨Tryz.f126,Tryz.f126.body.getD .skip,Tryz.func126,aA⟩ rfl rfl (fun g cs h=>bC) hv
theorem as6:E.cl 126=some DW:=rfl
theorem as7:E.cl 127=some DW:=rfl
theorem as8 (d:Nat):E.cn d=bif d==159 then 35 else bif d==115 then 102 else d:=rfl
theorem as9 (d:Option Nat):Ak E d=false:=GX
attribute [go_sem] as8 cond_true cond_false as9 if_false
abbrev yv (l:Nat):V:=.fn (.yield l) [] []
end Sh
end
section
open Go Go.Proofs aY
namespace Sh
set_option maxRecDepth 100000
set_option maxHeartbeats 600000
theorem aiV {a o s b p:Nat}{σ:au}{x:jo}(h:b≠a):(σ.setObj (a,o) s x).obj (b,p)=σ.obj (b,p):=by show upd σ.obj (a,o) _ (b,p)=_;unfold upd;rw[if_neg];intro e;exact h (congrArg Prod.fst e)
def kI (k:Int):Nat->List Row->List (Int×Row)
 |_,[]=>[]|i,r::l=>bif decide (r.Entry.ID=k) then (((i:Nat):Int),r)::kI k (i+1) l else kI k (i+1) l
def aaV (b:Book)(k:Int):List (Int×Row):=kI k 0 b.Rows
def JJ (l:List (Int×Row)):List (List V):=l.map fun p=>[.int .i64 p.1,Row.v p.2]
theorem aiW (j:Nat)(h:j<14)(fr:Fr)(a b c d e f g i k l m n:V):((((((((((((fr.set 14 a).set 15 b).set 16 c).set 17 d).set 18 e).set 19 f).set 20 g).set 21 i).set 22 k).set 23 l).set 24 m).set 25 n).tm j=fr.tm j:=by simp[Fr.set,upd,show j≠14 by omega,show j≠15 by omega,show j≠16 by omega,show j≠17 by omega,show j≠18 by omega,show j≠19 by omega,show j≠20 by omega,show j≠21 by omega,show j≠22 by omega,show j≠23 by omega,show j≠24 by omega,show j≠25 by omega]
theorem ata {d l:Nat}{J:List (List V)->au->Prop}{D:au->Prop}{k:Int}(hJ:∀xs σ σ',l<σ.next->J xs σ->wM d none σ σ'->J xs σ')(hD:∀σ σ',l<σ.next->D σ->wM d none σ σ'->D σ')(hr:∀x xs σ,l<σ.next->J (x::xs) σ->∃c σ',wL E l x σ c σ'/\σ.next<=σ'.next/\(c=true->J xs σ')/\(c=false->D σ'))(fr:Fr)(σ:au)(s:Nat)(r:Row)(i:Nat)(xs:List (Int×Row))(Q:Ex->Fr->au->Prop)(h0:fr.tm 0=yv l)(h2:fr.tm 2= .aI [.int .i64 k] 0)(h4:fr.tm 4= .int .i64 (i:Nat))(h5:fr.tm 5= .ref (d+1,5) s 0)(hc:∀n,(σ.bump n).dB (d+1,5) s=some r.c)(hl:l<σ.next)(hj:J (JJ (bif decide (r.Entry.ID=k) then (((i:Nat):Int),r)::xs else xs)) σ)(UN:∀fr' σ',(∀j,j<14->fr'.tm j=fr.tm j)->fr'.d=fr.d->σ.next<=σ'.next->J (JJ xs) σ'->Q .normal fr' σ')(aaW:∀fr' σ',σ.next<=σ'.next->D σ'->Q .ret fr' σ'):
 bM E ((iG Tryz.f119.body [1,0,0,1,1,0,0,1]).getD .skip) fr σ Q:=by
 have hP:E.P=Tryz.prog:=rfl;refine bM.seq (bM.region ?_);refine bL.a1 ?_;refine bL.a1 ?_;refine bL.a1 ?_;refine bL.a1 ?_;refine bL.a1 ?_;refine bL.a1 ?_;cases hk:decide (r.Entry.ID=k) with
 |false=>
  have hk':(r.Entry.ID==k)=false:=vP
  rw[hk,cond_false] at hj;refine bL.s1 zX ?_;refine bL.s1 zX ?_;refine bL.s1 zX ?_;refine bL.s1 zX ?_;refine bL.s1 zX ?_;refine bL.pk (t:=false) (x:=false) (y:=false) (by rfl) yL (fun h=>bC) (fun _=>yL) ?_;refine bL.nil (pF.n ?_);refine bM.YS yL ?_;refine bM.skip ?_;refine UN _ _ ?_ ?_ ?_ ?_
  ·intro j hj';exact aiW j hj' _ _ _ _ _ _ _ _ _ _ _ _ _
  ·simp only[Ik]
  ·exact gD _ _
  ·exact hJ _ _ _ hl hj ⟨gD _ _,fun _ _=>rfl,fun _ _=>rfl,fun _ _ _=>rfl⟩
 |true=>
  have hk':(r.Entry.ID==k)=true:=vP
  rw[hk,cond_true] at hj;refine bL.o1 zX K5 ?_;refine bL.o1 zX K5 ?_;refine bL.o1 zX K5 ?_;have hj2:J ([.int .i64 (i:Nat),Row.v r]::JJ xs) (σ.bump 12):=hJ _ _ _ hl hj ⟨gD _ _,fun _ _=>rfl,fun _ _=>rfl,fun _ _ _=>rfl⟩;obtain⟨c,σ1,hrnd,hn1,hc1,hc2⟩:=hr _ _ _ (iq hl (gD _ _)) hj2;have hl1:l<σ1.next:=iq hl (bZ (gD _ 12) hn1);have hwt:∀x,Is x (some true)->x=some true:=fun x h=>h;refine bL.yield (l:=l) (b:=c) (hwt _ (by simp only[go_sem,Nat.reduceBEq,Nat.reduceAdd,h0,h2,h4,h5,hk,hk',hP];with_reducible exact Is.rfl)) rfl rfl (by simp only[go_sem,Nat.reduceBEq,Nat.reduceAdd,h0]) (by
   have e:∀x y:List V,x=y->wL E l y (σ.bump 12) c σ1->wL E l x (σ.bump 12) c σ1:=fun x y h=>by rw[h];exact id
   exact e _ _ (by simp only[go_sem,fG,List.map_nil,Nat.reduceBEq,Nat.reduceAdd,h0,h2,h4,h5]) hrnd) ?_
  cases c with
  |true=>
   refine bL.o1 zX K5 ?_;refine bL.pk (t:=true) (x:=false) (y:=false) (by rfl) yL (fun _=>yL) (fun h=>bC) ?_;refine bL.nil (pF.n ?_);refine bM.YS yL ?_;refine bM.skip ?_;refine UN _ _ ?_ ?_ (bZ (gD _ 12) hn1) (hc1 rfl)
   ·intro j hj';exact aiW j hj' _ _ _ _ _ _ _ _ _ _ _ _ _
   ·simp only[Ik,YP]
  |false=>refine bL.o1 zX K5 ?_;refine bL.pk (t:=true) (x:=true) (y:=false) (by rfl) yL (fun _=>yL) (fun h=>bC) ?_;refine bL.nil (pF.n ?_);refine bM.afq yL ?_;exact bM.ret (aaW _ _ (bZ (gD _ 12) hn1) (hc2 rfl))
theorem atb {d l:Nat}{J:List (List V)->au->Prop}{D:au->Prop}{rows:List Row}{k:Int}(hb:rows.length<2^62)(hJ:∀xs σ σ',l<σ.next->J xs σ->wM d none σ σ'->J xs σ')(hD:∀σ σ',l<σ.next->D σ->wM d none σ σ'->D σ')(hr:∀x xs σ,l<σ.next->J (x::xs) σ->∃c σ',wL E l x σ c σ'/\σ.next<=σ'.next/\(c=true->J xs σ')/\(c=false->D σ')):
 ∀(m i:Nat)(fr:Fr)(σ:au),i+m=rows.length->fr.d=d+1->fr.tm 0=yv l->fr.tm 2= .aI [.int .i64 k] 0->fr.tm 7=lv Row.v rows->fr.tm 8= .int .i64 (rows.length:Nat)->fr.tm 9= .int .i64 (i:Nat)->l<σ.next->J (JJ (kI k i (rows.drop i))) σ->
  bM E ((iG Tryz.f119.body [1,0]).getD .skip) fr σ (fun e fr' σ'=>σ.next<=σ'.next/\((e= .exit 0/\J [] σ')\/(e= .ret/\D σ'))):=by
 have hP:E.P=Tryz.prog:=rfl;intro m;induction m with
 |zero=>
  intro i fr σ hi hd h0 h2 h7 h8 h9 hl hj;refine bM.loop (bM.seq (bM.region ?_));refine bL.a1 ?_;refine bL.nil (pF.n ?_);have e:decide (((i:Nat):Int)< (rows.length:Int))=false:=jR
  refine bM.seq (bM.YS yL ?_);have hn:rows.drop i=[]:=Lv ah;rw[hn] at hj;refine bM.exit (pF.x (Au.x ⟨gD _ _,.inl ⟨rfl,?_⟩⟩));exact hJ _ _ _ hl hj ⟨gD _ _,fun _ _=>rfl,fun _ _=>rfl,fun _ _ _=>rfl⟩
 |succ m ih=>
  intro i fr σ hi hd h0 h2 h7 h8 h9 hl hj;have hlt:i<rows.length:=ah
  have hx:aR rows ((i:Nat):Int)=some rows[i]:=by unfold aR;rw[if_pos ⟨ah,ah⟩];simp[hlt]
  have hdrop:rows.drop i=rows[i]::rows.drop (i+1):=uQ hlt;generalize rows[i]=r at hx hdrop;rw[hdrop] at hj;refine bM.loop (bM.seq (bM.region ?_));refine bL.a1 ?_;refine bL.nil (pF.n ?_);have e:decide (((i:Nat):Int)< (rows.length:Int))=true:=jR
  refine bM.seq (bM.afq yL ?_);refine bM.skip (pF.n ?_);refine bM.seq (bM.block (bM.seq (bM.region ?_)));have aBE:qU Tryz.prog 37 (lv Row.v rows) (.int .i64 ((i:Nat):Int))=some (.aI r.c 0):=by
   rw[afs,if_pos (by rfl)];have e1:mW Tryz.prog 37=some 62:=aA
   have e2:eX Tryz.prog 62=some 10:=aA
   rw[e1];simp only[Option.bind_some,e2,hx];rfl
  refine bL.a1 ?_;refine bL.a1 ?_;refine bL.a1 ?_;have hz:kR Tryz.prog 62=some (.agg [.int .i64 0,.int .i64 0,.int .i64 0,.int .i64 0,.int .i64 0,.int .i64 0,.int .i64 0,.ay .nil [],.ay .nil [],.int .i64 0]):=aA
  refine bL.a1 ?_;refine bL.a1 ?_;have hsz:eX Tryz.prog 62=some 10:=aA
  have hsp:jN [.int .i64 0,.int .i64 0,.int .i64 0,.int .i64 0,.int .i64 0,.int .i64 0,.int .i64 0,.ay .nil [],.ay .nil [],.int .i64 0] 0 r.c=r.c:=rfl;refine bL.o0 (by rfl) (by intro S;rw[afu];simp only[go_sem,Nat.reduceBEq,Nat.reduceAdd, *];rw[if_pos eO];exact Is.rfl) ?_;refine bL.nil (SC.i (pF.n ?_));have hj1:J (JJ (bif decide (r.Entry.ID=k) then (((i:Nat):Int),r)::kI k (i+1) (rows.drop (i+1)) else kI k (i+1) (rows.drop (i+1)))) σ:=hj;refine ata (k:=k) hJ hD hr _ _ ?s r i (kI k (i+1) (rows.drop (i+1))) _ ?h0 ?h2 ?h4 ?h5 ?hc ?hl ?hj ?UN ?aaW;case h0=>simp only[go_sem,Nat.reduceBEq,Nat.reduceAdd, *]
  case h2=>simp only[go_sem,Nat.reduceBEq,Nat.reduceAdd, *]
  case h4=>simp only[go_sem,Nat.reduceBEq,Nat.reduceAdd, *]
  case h5=>simp only[go_sem,Nat.reduceBEq,Nat.reduceAdd, *];rfl
  case hc=>exact fun n=>Av _ _ _ _
  case hl=>exact iq hl (bZ (gD _ _) (gD _ _))
  case hj=>exact hJ _ _ _ hl hj1 ⟨bZ (gD _ _) (gD _ _),fun _ _=>rfl,fun _ _=>rfl,fun L hL _=>by obtain⟨a,o⟩:=L;have h9:a<=d:=hL;exact(aiV ah).trans (aiV ah)⟩
  case UN=>
   intro fr' σ' k1 k2 k3 k4;have hn:σ.next<=σ'.next:=bZ (bZ (gD _ _) (gD _ _)) k3;refine u6.n (pF.n (bM.region ?_));have t0:fr'.tm 0=yv l:=by rw[k1 0 ah];simp only[go_sem,Nat.reduceBEq,Nat.reduceAdd, *]
   have t2:fr'.tm 2= .aI [.int .i64 k] 0:=by rw[k1 2 ah];simp only[go_sem,Nat.reduceBEq,Nat.reduceAdd, *]
   have t7:fr'.tm 7=lv Row.v rows:=by rw[k1 7 ah];simp only[go_sem,Nat.reduceBEq,Nat.reduceAdd, *]
   have t8:fr'.tm 8= .int .i64 (rows.length:Nat):=by rw[k1 8 ah];simp only[go_sem,Nat.reduceBEq,Nat.reduceAdd, *]
   have t9:fr'.tm 9= .int .i64 (i:Nat):=by rw[k1 9 ah];simp only[go_sem,Nat.reduceBEq,Nat.reduceAdd, *]
   have td:fr'.d=d+1:=by rw[k2];simp only[Ik,hd]
   have hw:IntKind.wrap .i64 ((i:Int)+(1:Int))=((i+1:Nat):Int):=Bp
   have hl':l<σ'.next:=iq hl hn;clear k1 k2 h0 h2 h7 h8 h9 hd;refine bL.a1 ?_;refine bL.a1 ?_;refine bL.nil (SC.i (Au.n ((ih (i+1) _ _ ah ?_ ?_ ?_ ?_ ?_ ?_ (iq hl' (gD _ _)) ?_).mono ?_)))
   ·simp only[Ik,td]
   ·simp only[go_sem,Nat.reduceBEq,Nat.reduceAdd, *]
   ·simp only[go_sem,Nat.reduceBEq,Nat.reduceAdd, *]
   ·simp only[go_sem,Nat.reduceBEq,Nat.reduceAdd, *]
   ·simp only[go_sem,Nat.reduceBEq,Nat.reduceAdd, *]
   ·simp only[go_sem,Nat.reduceBEq,Nat.reduceAdd, *]
   ·exact hJ _ _ _ hl' k4 ⟨gD _ _,fun _ _=>rfl,fun _ _=>rfl,fun _ _ _=>rfl⟩
   ·rintro e fT σ2 ⟨g1,g2⟩
    exact⟨bZ (bZ hn (gD _ _)) g1,g2⟩
  case aaW=>
   intro fr' σ' k3 k4;have hn:σ.next<=σ'.next:=bZ (bZ (gD _ _) (gD _ _)) k3;exact u6.r (pF.r (Au.r ⟨hn,.inr ⟨rfl,k4⟩⟩))
theorem atc (b:Book)(k:Int)(hb:b.Rows.length<2^62):FQ E false 119 [] [.aI b.c 0,.aI [.int .i64 k] 0] none (fun _=>True) (JJ (aaV b k)):=by
 intro d l σ J D _ hJ hD hr hl _ hj;refine oI.of (fn:=Tryz.f119) (c:=Tryz.f119.body.getD .skip) Tryz.func119 rfl aA ?_;generalize hfr:({d:=d+1,aj:=E.aj 119,tm:=fun i=>([]++[.fn (.yield l) [] []]++[.aI b.c 0,.aI [.int .i64 k] 0]:List V).getD i aK}:Fr)=fr;have h0:fr.tm 0=yv l:=Lp
 have h1:fr.tm 1= .aI b.c 0:=Lp
 have h2:fr.tm 2= .aI [.int .i64 k] 0:=Lp
 have hdd:fr.d=d+1:=by rw[<-hfr]
 have hP:E.P=Tryz.prog:=rfl;clear hfr;refine bM.seq (bM.region ?_);refine bL.a1 ?_;refine bL.a1 ?_;refine bL.a1 ?_;refine bL.a1 ?_;refine bL.nil (pF.n (bM.block ?_));refine(atb (k:=k) hb hJ hD (fun x xs σ hl hj=>?_) b.Rows.length 0 _ _ ah ?_ ?_ ?_ ?_ ?_ ?_ ?_ ?_).mono ?_
 ·obtain⟨c,σ',a1,a2,_,_,_,a3,a4⟩:=hr x xs σ hl hj
  exact⟨c,σ',a1,a2,a3,a4⟩
 ·simp only[Ik,hdd]
 ·simp only[go_sem,Nat.reduceBEq,Nat.reduceAdd, *]
 ·simp only[go_sem,Nat.reduceBEq,Nat.reduceAdd, *]
 ·simp only[go_sem,Nat.reduceBEq,Nat.reduceAdd, *]
 ·simp only[go_sem,Nat.reduceBEq,Nat.reduceAdd, *]
 ·simp only[go_sem,Nat.reduceBEq,Nat.reduceAdd, *];rfl
 ·exact iq hl (gD _ _)
 ·exact hJ _ _ _ hl hj ⟨gD _ _,fun _ _=>rfl,fun _ _=>rfl,fun _ _ _=>rfl⟩
 ·rintro e fr' σ' ⟨g1,⟨rfl,g2⟩| ⟨rfl,g2⟩⟩
  ·refine u6.hit ?_
   exact⟨[],rfl,bZ (gD _ _) g1,.inl g2⟩
  ·refine u6.r ?_
   exact⟨[],rfl,bZ (gD _ _) g1,.inr g2⟩
def Ch (b:Book)(k:Int):Option (List (Int×Row)):=if b.Rows.length<2^62 then some (aaV b k) else none
abbrev atd:List aM:=[.d (.int .i64),.d (.int .i64),.d (.slice (.st 0)),.d (.int .i64),.d (.int .i64),.d (.slice (.int .i64)),.d (.slice (.st 7))]
abbrev lq:List aM:=[.d (.int .i64),.d (.st 7)]
def dR:IR R:=Hr 119 ⟨[],[.aI atd 0,.aI [.d (.int .i64)] 0],lq,fun _ q=>Ch (⟨⟨q.1.1,q.1.2.1,q.1.2.2.1⟩,q.1.2.2.2.1,q.1.2.2.2.2.1,q.1.2.2.2.2.2.1,q.1.2.2.2.2.2.2⟩:Book) q.2,false⟩ Jw
theorem gB:kg E dR:=by
 refine asi NR ⟨rfl,fun pa pb xs h=>?_⟩;unfold Ch at h;dsimp only at h;split at h
 ·rename_i hsz
  cases h;have:=atc (⟨⟨pb.1.1,pb.1.2.1,pb.1.2.2.1⟩,pb.1.2.2.2.1,pb.1.2.2.2.2.1,pb.1.2.2.2.2.2.1,pb.1.2.2.2.2.2.2⟩:Book) pb.2 hsz;exact this
 ·cases h
end Sh
end
section
namespace aY
open Go
variable {E:Env}{R:gY}
def UO {α:Type}(p:List α)(x:Option (List α×Unit)):Option (List α×Unit):=bif p.isEmpty then some ([],()) else x
theorem aiX {f:FuncId}{τ:Ty}(hcl:E.cl f=some DW){p:List (Den R.T τ)}{x:Option (List (Den R.T τ)×Unit)}{y:List (Den R.T τ)}{q q':Unit}(h:UO p x=some (y,q'))(hx:x=some (y,q')->(∀(ρ:aT) (top:Nat->Nat) (vs:List V),aF R ρ top (vw R [.d (.slice τ)] p) vs->yV E f vs=none)->∀(ρ:aT) (vs:List V) (σ:au),ρ.aj.aj=E.aj f->(∀t,ρ.tk t=none)->ρ.aj.lo<=σ.next->
   aF R ρ σ.top (vw R [.d (.slice τ)] p) vs->(∀o x,look (gF R [] q) o=some x->eT ρ σ o x)->
   oI E f vs ρ.aj.dp σ fun v σ'=>DK ρ σ' (.arr τ) y v/\(∀o x,look (gF R [] q') o=some x->eT ρ σ' o x)/\σ.next<=σ'.next/\(∀l,l<σ.next->σ'.loops l=σ.loops l)/\(∀s,s<ρ.aj.lo->σ'.top s=σ.top s)/\
    ∀L:Loc,L.1<=ρ.aj.dp->ρ.aj.out L->σ'.obj L=σ.obj L):
 ∀(ρ:aT)(vs:List V)(σ:au),ρ.aj.aj=E.aj f->(∀t,ρ.tk t=none)->ρ.aj.lo<=σ.next->
  aF R ρ σ.top (vw R [.d (.slice τ)] p) vs->(∀o x,look (gF R [] q) o=some x->eT ρ σ o x)->
  oI E f vs ρ.aj.dp σ fun v σ'=>DK ρ σ' (.arr τ) y v/\(∀o x,look (gF R [] q') o=some x->eT ρ σ' o x)/\σ.next<=σ'.next/\(∀l,l<σ.next->σ'.loops l=σ.loops l)/\(∀s,s<ρ.aj.lo->σ'.top s=σ.top s)/\
   ∀L:Loc,L.1<=ρ.aj.dp->ρ.aj.out L->σ'.obj L=σ.obj L:=by
 have inv:∀(ρ:aT)(top:Nat->Nat)(vs:List V),aF R ρ top (vw R [.d (.slice τ)] p) vs->∃c,vs=[.ay c (p.map (aX R τ))]:=by intro ρ top vs hr;have hr':aF R ρ top [ak.ay .any τ p] vs:=hr;obtain⟨v,ws,rfl,h1,h2⟩:=hr'.dW;rw[h2.iJ];obtain⟨c,rfl,_⟩:=h1.lU;exact⟨c,rfl⟩
 unfold UO at h;cases p with
 |nil=>
  cases h;intro ρ vs σ h1 h2 h3 hr ho;obtain⟨c,rfl⟩:=inv _ _ _ hr;refine⟨1,.ay .full [],σ,?_,.inr ⟨rfl,.inr rfl⟩,fun o x hx=>CJ,RS _,fun _ _=>rfl,fun _ _=>rfl,fun _ _ _=>rfl⟩;show Al E (dX E 0) f _ _ σ=_;unfold Al yV;rw[hcl];rfl
 |cons a p=>refine hx h (fun ρ top vs hr=>?_);obtain⟨c,rfl⟩:=inv _ _ _ hr;unfold yV;rw[hcl];rfl
end aY
end
section
open Go Go.Proofs aY
namespace Sh
def Od (_:Nat):Nat->List (fM R):=Uv
theorem ate (n:Nat):bg E (Od n):=Uw
theorem atf (p:aW R.T [])(x:Bool)(h:F4=some x):Pure E 13 (bX R [] p) (nZ [.bool x]):=⟨0,by
 show (F4.map V.bool)=some (.bool x);rw[h];rfl⟩
theorem nameP (p:aW R.T [.d .str])(x:Bool)(h:F5 p=some x):Pure E 168 (bX R [.d .str] p) (nZ (bX R [.d .bool] x)):=⟨0,congrArg (Option.map V.bool) h⟩
end Sh
end
