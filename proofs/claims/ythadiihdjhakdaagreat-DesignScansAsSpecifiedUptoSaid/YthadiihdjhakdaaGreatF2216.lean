import Derived.ChangeCalls
import Derived.Deep.DeepHandedRow
import Derived.DefersIn
import Derived.Lib.LaidTab
import Derived.Lib.SliceRun
import Derived.Maps.RangeRun
import Derived.OpenShut
import Derived.ProofKit
import Derived.Test.YthadiihdjhakdaaGreatF2214
import Derived.Test.YthadiihdjhakdaaGreatF2215
import Derived.Test.YthadiihdjhakdaaGreatRows
set_option linter.all false
noncomputable section
section
open Go Go.Proofs aR
namespace Sh
set_option maxRecDepth 100000
def Pred.re (x:Pred):Pred:=⟨x.Op,x.Name,x.N,x.M,x.S,x.bS⟩
theorem Pred.lH (x:Pred):x.re=x:=by cases x;rfl
def FJ:Nat->Type
 |0=>Def|1=>aJ|2=>Pred|3=>Snapshot|4=>Query|5=>Attr|6=>Entry|7=>Row|8=>Book|9=>fG|10=>aG|11=>jv|12=>jI|13=>Event|14=>bN|15=>jT|16=>dD|17=>gu|_+18=>Unit
def rd:(n:Nat)->FJ n
 |0=>(⟨[],0,0,0,[]⟩:Def)|1=>(⟨0,0,[]⟩:aJ)|2=>(⟨0,[],0,0,[],[]⟩:Pred)|3=>(⟨0,0⟩:Snapshot)|4=>(⟨[],0,0,⟨0,[],0,0,[],[]⟩,⟨0,0⟩,0⟩:Query)|5=>(⟨[],0,0,[]⟩:Attr)|6=>(⟨0,0,0,0,0,0,0,[],[]⟩:Entry)|7=>(⟨⟨0,0,0,0,0,0,0,[],[]⟩,0⟩:Row)|8=>(⟨⟨0,0,[]⟩,0,0,[],[]⟩:Book)|9=>(⟨⟨⟨0,0,[]⟩,0,0,[],[]⟩,0,0⟩:fG)|10=>(⟨0,0,0⟩:aG)|11=>(⟨[],0⟩:jv)|12=>(⟨0,0,0,0,0,0,0,0,0,0,0,0,0,0,0,0⟩:jI)|13=>(⟨0,0,0,0,0,0,0,[],[],⟨0,0,0,0,0,0,0,0,0,0,0,0,0,0,0,0⟩⟩:Event)
 |14=>(⟨⟨⟨0,0,[]⟩,0,0,[],[]⟩,0⟩:bN)|15=>(⟨0,false⟩:jT)|16=>(⟨0,0⟩:dD)|17=>(⟨⟨[],0,0,[]⟩,false⟩:gu)|_+18=>()
def abr:Nat->List Ty
 |0=>[.str,.int .i64,.int .i64,.int .i64,.slice .str]|1=>[.int .i64,.int .i64,.slice (.st 0)]|2=>[.int .i64,.str,.int .i64,.int .i64,.str,.slice (.st 2)]|3=>[.int .i64,.int .i64]|4=>[.slice (.int .i64),.int .i64,.int .i64,.int .i64,.str,.int .i64,.int .i64,.str,.slice (.st 2),.int .i64,.int .i64,.int .i64]|5=>[.str,.int .i64,.int .i64,.str]|6=>[.int .i64,.int .i64,.int .i64,.int .i64,.int .i64,.int .i64,.int .i64,.slice (.int .i64),.slice (.st 5)]
 |7=>[.int .i64,.int .i64,.int .i64,.int .i64,.int .i64,.int .i64,.int .i64,.slice (.int .i64),.slice (.st 5),.int .i64]|8=>[.int .i64,.int .i64,.slice (.st 0),.int .i64,.int .i64,.slice (.int .i64),.slice (.st 7)]|9=>[.int .i64,.int .i64,.slice (.st 0),.int .i64,.int .i64,.slice (.int .i64),.slice (.st 7),.int .i64,.int .i64]|10=>[.int .i64,.int .i64,.int .i64]|11=>[.slice (.st 10),.int .i64]|12=>[.int .u8,.int .u8,.int .u8,.int .u8,.int .u8,.int .u8,.int .u8,.int .u8,.int .u8,.int .u8,.int .u8,.int .u8,.int .u8,.int .u8,.int .u8,.int .u8]
 |13=>[.int .i64,.int .i64,.int .i64,.int .i64,.int .i64,.int .i64,.int .i64,.slice (.int .i64),.slice (.st 5),.int .u8,.int .u8,.int .u8,.int .u8,.int .u8,.int .u8,.int .u8,.int .u8,.int .u8,.int .u8,.int .u8,.int .u8,.int .u8,.int .u8,.int .u8,.int .u8]|14=>[.int .i64,.int .i64,.slice (.st 0),.int .i64,.int .i64,.slice (.int .i64),.slice (.st 7),.int .i64]|15=>[.int .i64,.bool]|16=>[.int .i64,.int .i64]
 |17=>[.str,.int .i64,.int .i64,.str,.bool]|_+18=>[]
def avv:(n:Nat)->pV FJ (abr n)->FJ n
 |0=>fun p=>(⟨p.1,p.2.1,p.2.2.1,p.2.2.2.1,p.2.2.2.2⟩:Def)
 |1=>fun p=>(⟨p.1,p.2.1,p.2.2⟩:aJ)
 |2=>fun p=>(⟨p.1,p.2.1,p.2.2.1,p.2.2.2.1,p.2.2.2.2.1,p.2.2.2.2.2⟩:Pred)
 |3=>fun p=>(⟨p.1,p.2⟩:Snapshot)
 |4=>fun p=>(⟨p.1,p.2.1,p.2.2.1,⟨p.2.2.2.1,p.2.2.2.2.1,p.2.2.2.2.2.1,p.2.2.2.2.2.2.1,p.2.2.2.2.2.2.2.1,p.2.2.2.2.2.2.2.2.1⟩,⟨p.2.2.2.2.2.2.2.2.2.1,p.2.2.2.2.2.2.2.2.2.2.1⟩,p.2.2.2.2.2.2.2.2.2.2.2⟩:Query)
 |5=>fun p=>(⟨p.1,p.2.1,p.2.2.1,p.2.2.2⟩:Attr)
 |6=>fun p=>(⟨p.1,p.2.1,p.2.2.1,p.2.2.2.1,p.2.2.2.2.1,p.2.2.2.2.2.1,p.2.2.2.2.2.2.1,p.2.2.2.2.2.2.2.1,p.2.2.2.2.2.2.2.2⟩:Entry)
 |7=>fun p=>(⟨⟨p.1,p.2.1,p.2.2.1,p.2.2.2.1,p.2.2.2.2.1,p.2.2.2.2.2.1,p.2.2.2.2.2.2.1,p.2.2.2.2.2.2.2.1,p.2.2.2.2.2.2.2.2.1⟩,p.2.2.2.2.2.2.2.2.2⟩:Row)
 |8=>fun p=>(⟨⟨p.1,p.2.1,p.2.2.1⟩,p.2.2.2.1,p.2.2.2.2.1,p.2.2.2.2.2.1,p.2.2.2.2.2.2⟩:Book)
 |9=>fun p=>(⟨⟨⟨p.1,p.2.1,p.2.2.1⟩,p.2.2.2.1,p.2.2.2.2.1,p.2.2.2.2.2.1,p.2.2.2.2.2.2.1⟩,p.2.2.2.2.2.2.2.1,p.2.2.2.2.2.2.2.2⟩:fG)
 |10=>fun p=>(⟨p.1,p.2.1,p.2.2⟩:aG)
 |11=>fun p=>(⟨p.1,p.2⟩:jv)
 |12=>fun p=>(⟨p.1,p.2.1,p.2.2.1,p.2.2.2.1,p.2.2.2.2.1,p.2.2.2.2.2.1,p.2.2.2.2.2.2.1,p.2.2.2.2.2.2.2.1,p.2.2.2.2.2.2.2.2.1,p.2.2.2.2.2.2.2.2.2.1,p.2.2.2.2.2.2.2.2.2.2.1,p.2.2.2.2.2.2.2.2.2.2.2.1,p.2.2.2.2.2.2.2.2.2.2.2.2.1,p.2.2.2.2.2.2.2.2.2.2.2.2.2.1,p.2.2.2.2.2.2.2.2.2.2.2.2.2.2.1,p.2.2.2.2.2.2.2.2.2.2.2.2.2.2.2⟩:jI)
 |13=>fun p=>(⟨p.1,p.2.1,p.2.2.1,p.2.2.2.1,p.2.2.2.2.1,p.2.2.2.2.2.1,p.2.2.2.2.2.2.1,p.2.2.2.2.2.2.2.1,p.2.2.2.2.2.2.2.2.1,⟨p.2.2.2.2.2.2.2.2.2.1,p.2.2.2.2.2.2.2.2.2.2.1,p.2.2.2.2.2.2.2.2.2.2.2.1,p.2.2.2.2.2.2.2.2.2.2.2.2.1,p.2.2.2.2.2.2.2.2.2.2.2.2.2.1,p.2.2.2.2.2.2.2.2.2.2.2.2.2.2.1,p.2.2.2.2.2.2.2.2.2.2.2.2.2.2.2.1,p.2.2.2.2.2.2.2.2.2.2.2.2.2.2.2.2.1,p.2.2.2.2.2.2.2.2.2.2.2.2.2.2.2.2.2.1,p.2.2.2.2.2.2.2.2.2.2.2.2.2.2.2.2.2.2.1,p.2.2.2.2.2.2.2.2.2.2.2.2.2.2.2.2.2.2.2.1,p.2.2.2.2.2.2.2.2.2.2.2.2.2.2.2.2.2.2.2.2.1,p.2.2.2.2.2.2.2.2.2.2.2.2.2.2.2.2.2.2.2.2.2.1,p.2.2.2.2.2.2.2.2.2.2.2.2.2.2.2.2.2.2.2.2.2.2.1,p.2.2.2.2.2.2.2.2.2.2.2.2.2.2.2.2.2.2.2.2.2.2.2.1,p.2.2.2.2.2.2.2.2.2.2.2.2.2.2.2.2.2.2.2.2.2.2.2.2⟩⟩:Event)
 |14=>fun p=>(⟨⟨⟨p.1,p.2.1,p.2.2.1⟩,p.2.2.2.1,p.2.2.2.2.1,p.2.2.2.2.2.1,p.2.2.2.2.2.2.1⟩,p.2.2.2.2.2.2.2⟩:bN)
 |15=>fun p=>(⟨p.1,p.2⟩:jT)
 |16=>fun p=>(⟨p.1,p.2⟩:dD)
 |17=>fun p=>(⟨⟨p.1,p.2.1,p.2.2.1,p.2.2.2.1⟩,p.2.2.2.2⟩:gu)
 |_+18=>fun _=>()
def avw:(n:Nat)->FJ n->pV FJ (abr n)
 |0=>fun (x:Def)=>(x.Name,x.Kind,x.Lo,x.Hi,x.Words)
 |1=>fun (x:aJ)=>(x.eH,x.fU,x.Defs)
 |2=>fun (x:Pred)=>(x.Op,x.Name,x.N,x.M,x.S,x.bS)
 |3=>fun (x:Snapshot)=>(x.Day,x.aS)
 |4=>fun (x:Query)=>(x.Vec,x.K,x.Within,x.Where.Op,x.Where.Name,x.Where.N,x.Where.M,x.Where.S,x.Where.bS,x.At.Day,x.At.aS,x.Budget)
 |5=>fun (x:Attr)=>(x.Name,x.Kind,x.N,x.S)
 |6=>fun (x:Entry)=>(x.ID,x.iL,x.jg,x.kJ,x.From,x.To,x.iV,x.Vec,x.bU)
 |7=>fun (x:Row)=>(x.Entry.ID,x.Entry.iL,x.Entry.jg,x.Entry.kJ,x.Entry.From,x.Entry.To,x.Entry.iV,x.Entry.Vec,x.Entry.bU,x.nC)
 |8=>fun (x:Book)=>(x.aJ.eH,x.aJ.fU,x.aJ.Defs,x.aS,x.Day,x.bV,x.Rows)
 |9=>fun (x:fG)=>(x.B.aJ.eH,x.B.aJ.fU,x.B.aJ.Defs,x.B.aS,x.B.Day,x.B.bV,x.B.Rows,x.N,x.E)
 |10=>fun (x:aG)=>(x.ID,x.iL,x.Key)
 |11=>fun (x:jv)=>(x.L,x.E)
 |12=>fun (x:jI)=>(x.b0,x.b1,x.b2,x.b3,x.b4,x.b5,x.b6,x.b7,x.b8,x.b9,x.b10,x.b11,x.b12,x.b13,x.b14,x.b15)
 |13=>fun (x:Event)=>(x.Kind,x.aS,x.Day,x.ID,x.jg,x.Until,x.From,x.Vec,x.bU,x.bY.b0,x.bY.b1,x.bY.b2,x.bY.b3,x.bY.b4,x.bY.b5,x.bY.b6,x.bY.b7,x.bY.b8,x.bY.b9,x.bY.b10,x.bY.b11,x.bY.b12,x.bY.b13,x.bY.b14,x.bY.b15)
 |14=>fun (x:bN)=>(x.B.aJ.eH,x.B.aJ.fU,x.B.aJ.Defs,x.B.aS,x.B.Day,x.B.bV,x.B.Rows,x.E)
 |15=>fun (x:jT)=>(x.N,x.Is)
 |16=>fun (x:dD)=>(x.from_,x.to)
 |17=>fun (x:gu)=>(x.A.Name,x.A.Kind,x.A.N,x.A.S,x.Is)
 |_+18=>fun _=>()
def aiN:(n:Nat)->FJ n->V
 |0=>fun (x:Def)=>Def.v x
 |1=>fun (x:aJ)=>aJ.v x
 |2=>fun (x:Pred)=>Pred.v x
 |3=>fun (x:Snapshot)=>Snapshot.v x
 |4=>fun (x:Query)=>Query.v x
 |5=>fun (x:Attr)=>Attr.v x
 |6=>fun (x:Entry)=>Entry.v x
 |7=>fun (x:Row)=>Row.v x
 |8=>fun (x:Book)=>Book.v x
 |9=>fun (x:fG)=>fG.v x
 |10=>fun (x:aG)=>aG.v x
 |11=>fun (x:jv)=>jv.v x
 |12=>fun (x:jI)=>jI.v x
 |13=>fun (x:Event)=>Event.v x
 |14=>fun (x:bN)=>bN.v x
 |15=>fun (x:jT)=>jT.v x
 |16=>fun (x:dD)=>dD.v x
 |17=>fun (x:gu)=>gu.v x
 |_+18=>fun _=>.agg []
def rty:List (Nat×Ty):=[(2,.int .i64),(3,.int .i64),(4,.bool),(5,.int .u8),(6,.int .u8),(9,.str),(10,.str),(11,.str),(12,.int .u64),(21,.int .i32),(22,.slice (.st 0)),(24,.st 1),(25,.slice (.st 13)),(26,.slice (.int .i64)),(27,.slice (.st 2)),(29,.st 2),(31,.st 3),(33,.st 4),(37,.slice (.st 7)),(39,.st 8),(40,.int .i64),(42,.st 9),(44,.slice (.st 10)),(48,.st 11),(52,.slice (.st 6)),(58,.slice (.st 5)),(60,.st 6),(62,.st 7),(70,.st 12),(72,.st 13),(83,.st 14),(89,.st 15),(96,.st 10),(129,.slice .str),(131,.st 0),(135,.slice (.int .u8)),(141,.slice (.st 5)),(164,.st 5),(176,.slice (.st 16)),(178,.st 16),(194,.st 17),(211,.int .u64),(215,.int .u64),(220,.int .i64),(227,.int .u32),(229,.int .u64),(244,.int .u8),(245,.int .u8),(248,.int .i32),(249,.int .i32)]
def R:iI:={T:=FJ,d:=rd,lf:=abr,to:=avv,of:=avw,enc:=aiN,ty:=fun t=>look rty t,gl:=fun _=>none}
theorem bD:qE R where
 OH:=fun n p=>by
  match n,p with
  |0,p=>exact rfl|1,p=>exact rfl|2,p=>exact rfl|3,p=>exact rfl|4,p=>exact rfl|5,p=>exact rfl|6,p=>exact rfl|7,p=>exact rfl|8,p=>exact rfl|9,p=>exact rfl|10,p=>exact rfl|11,p=>exact rfl|12,p=>exact rfl|13,p=>exact rfl|14,p=>exact rfl|15,p=>exact rfl|16,p=>exact rfl|17,p=>exact rfl|_+18,p=>exact rfl
 enc:=fun n x=>by
  match n,x with
  |0,x=>exact rfl|1,x=>exact rfl|2,x=>exact(by show Pred.v x=_;unfold Pred.v Pred.c;simp only[Pred.Jl];rfl)|3,x=>exact rfl|4,x=>exact(by show Query.v x=_;unfold Query.v Query.c;simp only[Pred.Jl];rfl)|5,x=>exact rfl|6,x=>exact rfl|7,x=>exact rfl|8,x=>exact rfl|9,x=>exact rfl|10,x=>exact rfl|11,x=>exact rfl|12,x=>exact rfl|13,x=>exact rfl|14,x=>exact rfl|15,x=>exact rfl|16,x=>exact rfl|17,x=>exact rfl
  |_+18,x=>exact rfl
 leaf:=fun n=>by
  match n with
  |0=>exact rfl|1=>exact rfl|2=>exact rfl|3=>exact rfl|4=>exact rfl|5=>exact rfl|6=>exact rfl|7=>exact rfl|8=>exact rfl|9=>exact rfl|10=>exact rfl|11=>exact rfl|12=>exact rfl|13=>exact rfl|14=>exact rfl|15=>exact rfl|16=>exact rfl|17=>exact rfl|_+18=>exact rfl
 pc:=fun n x=>by
  match n,x with
  |0,x=>exact Def.pc x|1,x=>exact aJ.pc x|2,x=>exact Pred.pc x|3,x=>exact Snapshot.pc x|4,x=>exact Query.pc x|5,x=>exact Attr.pc x|6,x=>exact Entry.pc x|7,x=>exact Row.pc x|8,x=>exact Book.pc x|9,x=>exact fG.pc x|10,x=>exact aG.pc x|11,x=>exact jv.pc x|12,x=>exact jI.pc x|13,x=>exact Event.pc x|14,x=>exact bN.pc x|15,x=>exact jT.pc x|16,x=>exact dD.pc x|17,x=>exact gu.pc x|_+18,x=>exact(by simp[R,aiN,aW,cB])
end Sh
end
section
open Go Go.Proofs aR
namespace Sh
def Pt (_:Nat):Option (List V):=none
end Sh
end
section
namespace aR
open Go Go.RowKit
section
variable {E:Env}{B0 r:Nat}{σ σ':ak}{K K':aU}{w w':World}{m m':Option Nat}{s s' c c':Nat}{se aiO:Array Nat}
theorem abt {b:Nat}{o:Obj}(hr:w.heap[r]? =some (.mapIter m s se c))(h:w.heap[b]? =some o)(hn:∀m s se c,o≠ .mapIter m s se c):b≠r:=by rintro rfl;rw[hr] at h;cases h;exact hn _ _ _ _ rfl
theorem aiP {b i:Nat}{v:Value}(hr:w.heap[r]? =some (.mapIter m s se c))(h:w.cell? (at_ b i)=some v):b≠r:=by rintro rfl;exact Yq hr trivial h
theorem Rel.turn {T:Nat->Nat}(hr:w.heap[r]? =some (.mapIter m s se c))(ho:Only r w w'){v:V}{x:Value}(h:Rel K T w v x):Rel K T w' v x:=by
 have hc:∀b i v,w.cell? (at_ b i)=some v->w'.cell? (at_ b i)=some v:=fun b i v h=>(cell_of_heap (ho.block b (aiP hr h) (lt_of_cell h))).trans h;induction h with
 |int k n=>exact .int k n|bool b=>exact .bool b|str s b h=>exact .str s b h|iC=>exact .iC|gQ=>exact .gQ|gD=>exact .gD|iH=>exact .iH|agg cs vs hl _ ih=>exact .agg cs vs hl ih|bB cs vs hl _ ih=>exact .bB cs vs hl ih|eP c a ha hc=>exact .eP c a ha hc|ay c l b o n cap val hle hn hcell _ hca ih=>exact .ay c l b o n cap val hle hn (fun i j hi hj=>⟨hc _ _ _ (hcell i j hi hj).1,(hcell i j hi hj).2⟩) ih hca
 |aM loc s off len cap bZ ag dP hA hc hle hsz=>exact .aM loc s off len cap bZ ag dP hA hc hle hsz|kP loc s bZ ag hA=>exact .kP loc s bZ ag hA|aY cs off b o val hcell _ ih=>exact .aY cs off b o val (fun j hj=>⟨hc _ _ _ (hcell j hj).1,(hcell j hj).2⟩) ih
 |ref loc s off hA=>exact .ref loc s off hA|fn f a b j6 bv ha hb _ _ iha ihb=>exact .fn f a b j6 bv ha hb iha ihb|yield l hA=>exact .yield l hA|cu loc s hA=>exact .cu loc s hA|dV ks vs b es bX hM hb hk hv _ _ ihk Ez=>exact .dV ks vs b es bX hM ((ho.block b (abt hr hb aD) (lt_of_heap hb)).trans hb) hk hv ihk Ez|iface t v c _ ih=>exact .iface t v c ih|raw v=>exact .raw v
theorem kD.turn {T:Nat->Nat}(hr:w.heap[r]? =some (.mapIter m s se c))(ho:Only r w w'){fr:Fr}{tmps:Array Value}(h:kD K T w fr tmps):kD K T w' fr tmps:=fun t=>(h t).turn hr ho
theorem bE.turn (h:bE E B0 σ K w)(hr:w.heap[r]? =some (.mapIter m s se c))(ho:Only r w w')(hr':w'.heap[r]? =some (.mapIter m' s' aiO c')):bE E B0 σ K w':=by
 have hb:∀{b:Nat}{o:Obj},w.heap[b]? =some o->(∀m s se c,o≠ .mapIter m s se c)->w'.heap[b]? =some o:=fun h hn=>(ho.block _ (abt hr h hn) (lt_of_heap h)).trans h;have hc:∀{b i:Nat}{v:Value},w.cell? (at_ b i)=some v->w'.cell? (at_ b i)=some v/\w'.frozen? (at_ b i)=w.frozen? (at_ b i):=fun {b i v} h=>by have e:=ho.block b (aiP hr h) (lt_of_cell h);exact⟨(cell_of_heap e).trans h,frozen_of_heap e⟩
 refine⟨fun loc s0 ob hs=>?_,fun s0 hs hl=>?_,fun b i hi=>?_,fun b hi=>?_,fun l rc hl=>?_,fun g cs hg=>(h.glob g cs hg).turn hr ho,fun b rl hb'=>?_,fun b hd=>hb (h.D b hd) aD⟩
 ·obtain⟨a1,a2,a3⟩:=h.obj loc s0 ob hs
  refine⟨a1,?_,a3⟩;cases ob with
  |cells cs=>refine⟨a2.1,fun hne=>?_⟩;obtain⟨b1,vals,t,b2,b3,b4,b5⟩:=a2.2 hne;exact⟨b1,vals,t,hb b2 aD,b3,b4,fun i hi=>(b5 i hi).turn hr ho⟩
  |map ks vs=>obtain⟨b1,es,bX,b2,b3,b4,b5,b6,b7⟩:=a2;exact⟨b1,es,bX,hb b2 aD,b3,b4,b5,fun i hi=>(b6 i hi).turn hr ho,fun i hi=>(b7 i hi).turn hr ho⟩
 ·obtain⟨a1,a2,a3⟩:=h.own s0 hs hl
  refine⟨a1,a2,fun o p q=>?_⟩;obtain⟨c1,⟨v,c2⟩,c3⟩:=a3 o p q;exact⟨c1,⟨v,(hc c2).1⟩,(hc c2).2.trans c3⟩
 ·obtain⟨⟨v,a1⟩,a2⟩:=h.I b i hi
  exact⟨⟨v,(hc a1).1⟩,a2⟩
 ·obtain⟨⟨o,a1,a2⟩,a3⟩:=h.IM b hi
  refine⟨?_,a3⟩;by_cases e:b=r
  ·subst e;exact⟨_,hr',trivial⟩
  ·exact⟨o,(ho.block b e (lt_of_heap a1)).trans a1,a2⟩
 ·obtain⟨a1,a2,a3,fn,tmps,D,a4,a5,a6⟩:=h.loop l rc hl
  exact⟨a1,a2,a3,fn,tmps,D,hb a4 aD,a5.turn hr ho,a6⟩
 ·exact⟨gM (h.rb b rl hb').1 ho.size,(h.rb b rl hb').2⟩
theorem Step.turn {new:Nat->Prop}{iy:ak}{K0:aU}{w0:World}(h0:bE E B0 iy K0 w0)(hB:B0<=w0.heap.size)(h:Step E B0 new iy K0 w0 σ K w)(hb:w0.heap.size<=r)(hr:w.heap[r]? =some (.mapIter m s se c))(ho:Only r w w')(hr':w'.heap[r]? =some (.mapIter m' s' aiO c')):Step E B0 new iy K0 w0 σ K w':=by
 refine⟨h.ok.turn hr ho hr',⟨h.ext.A,h.ext.own,fun b o hi=>?_,fun b hi=>?_⟩,h.below.trans (ho.below (dJ hB hb) (dJ hB h.below.size)),h.D,h.A,h.qp,h.qw⟩
 ·obtain⟨a1,a2⟩:=h.ext.I b o hi
  have hlt:=lt_of_cell (h0.I b o hi).1.choose_spec;exact⟨a1,(cell_of_heap (ho.block b ah (gM hlt h.below.size))).trans a2⟩
 ·obtain⟨a1,a2⟩:=h.ext.IM b hi
  obtain⟨⟨o,g,_⟩,_⟩:=h0.IM b hi;have hlt:=lt_of_heap g;exact⟨a1,(ho.block b ah (gM hlt h.below.size)).trans a2⟩
theorem Step.iterate {new:Nat->Prop}{loc:Loc}{st:Nat}{ks vs:List V}{es:Array MapEntry}{bX:Nat}(h:bE E B0 σ K w)(hB:B0<=w.heap.size)(hs:σ.obj loc=some (st,.map ks vs))(hv:w.heap[K.blk st]? =some (.map es bX)):
 Step E B0 new σ K w (σ.eu loc) {K with IM:=fun b=>K.IM b\/b=K.blk st\/b=w.heap.size,ρ:=upd K.ρ (K.blk st) none} (w.alloc (.mapIter (some (K.blk st)) bX #[] bX)):=by
 obtain⟨hA,⟨hb0,_⟩,hρ⟩:=h.obj _ _ _ hs;have hρ:=hρ trivial;have hblk:=(h.rb _ _ hρ).1;have e1:Ext K σ.top w {K with IM:=fun b=>K.IM b\/b=K.blk st,ρ:=upd K.ρ (K.blk st) none} (σ.eu loc).top w:=⟨fun _ h=>⟨h,rfl,rfl,rfl⟩,fun _ _=>.inl ⟨rfl,rfl,rfl,rfl⟩,fun _ _ h=>⟨h,rfl⟩,fun _ h=>⟨.inl h,rfl⟩⟩;have hget:∀l s ob,(σ.eu loc).obj l=some (s,ob)->l≠loc/\σ.obj l=some (s,ob):=fun l s ob hl=>by
  by_cases e:l=loc
  ·subst e
   simp only[ak.eu,upd_same] at hl;cases hl
  ·simp only[ak.eu,upd_ne _ _ e] at hl
   exact⟨e,hl⟩
 have ok1:bE E B0 (σ.eu loc) {K with IM:=fun b=>K.IM b\/b=K.blk st,ρ:=upd K.ρ (K.blk st) none} w:=by
  refine h.upd (b:=K.blk st) ⟨rfl,rfl,rfl,iP _,fun _ _ _=>rfl,iP _⟩ e1 (fun k hk=>upd_ne _ _ hk) (fun r hr=>⟨hblk,hb0⟩) ?_ ?_ ?_ ?_ ?_ ?_
  ·intro l s ob hl
   obtain⟨g1,g2⟩:=hget _ _ _ hl;exact .inl ⟨g2,fun hr=>h.Np g2 hs g1 hr trivial⟩
  ·intro s2 hs2 hlt
   have a2:=(h.own s2 hs2 hlt).2.1;refine .inl ⟨hs2,rfl,rfl,rfl,fun e'=>?_⟩;rw[e',hρ] at a2;cases a2
  ·intro b' i hi
   exact .inl ⟨hi,fun e'=>(h.I b' i hi).2 loc (e'▸hρ)⟩
  ·intro b' hi
   rcases hi with hi|rfl
   ·exact .inl ⟨hi,fun e'=>(h.IM b' hi).2 loc (e'▸hρ)⟩
   ·exact .inr ⟨rfl,⟨_,hv,trivial⟩,fun l e=>by have e:upd K.ρ (K.blk st) none (K.blk st)=some (.obj l):=e;rw[upd_same] at e;cases e⟩
  ·intro l rc hl
   refine .inl ⟨hl,fun e'=>?_⟩;have a2:=(h.loop l rc hl).2.2.1;rw[e',hρ] at a2;cases a2
  ·intro b' hd
   exact .inl ⟨hd,wI (h.D b' hd) hv aD⟩
 have ho:=CX w (.mapIter (some (K.blk st)) bX #[] bX);have e2:Ext {K with IM:=fun b=>K.IM b\/b=K.blk st,ρ:=upd K.ρ (K.blk st) none} (σ.eu loc).top w {K with IM:=fun b=>K.IM b\/b=K.blk st\/b=w.heap.size,ρ:=upd K.ρ (K.blk st) none} (σ.eu loc).top (w.alloc (.mapIter (some (K.blk st)) bX #[] bX)):=by
  refine⟨fun _ h=>⟨h,rfl,rfl,rfl⟩,fun _ _=>.inl ⟨rfl,rfl,rfl,rfl⟩,fun b i hi=>⟨hi,?_⟩,fun b hb=>⟨hb.imp id .inl,?_⟩⟩
  ·obtain⟨⟨v,hv⟩,_⟩:=ok1.I b i hi
   rw[hv];exact Nl hv
  ·obtain⟨⟨_,hv,_⟩,_⟩:=ok1.IM b hb
   exact heap_alloc_old (lt_of_heap hv)
 have yu:bE E B0 (σ.eu loc) {K with IM:=fun b=>K.IM b\/b=K.blk st\/b=w.heap.size,ρ:=upd K.ρ (K.blk st) none} (w.alloc (.mapIter (some (K.blk st)) bX #[] bX)):=by
  refine ok1.upd (b:=w.heap.size) ho e2 (fun _ _=>rfl) (fun rl hr=>?_) ?_ ?_ ?_ ?_ ?_ ?_
  ·have:=(ok1.rb _ _ hr).1;omega
  ·intro l s ob hl
   refine .inl ⟨hl,fun hr=>?_⟩;have:=(ok1.rb _ _ ((ok1.obj _ _ _ hl).2.2 hr)).1;exact kF this
  ·intro s2 hs2 hlt
   refine .inl ⟨hs2,rfl,rfl,rfl,?_⟩;have:=(ok1.rb _ _ (ok1.own s2 hs2 hlt).2.1).1;exact kF this
  ·intro b' i hi
   obtain⟨⟨v,hv⟩,_⟩:=ok1.I b' i hi;exact .inl ⟨hi,kF (lt_of_cell hv)⟩
  ·intro b' hi
   rcases hi with hi|hi|rfl
   ·obtain⟨⟨_,hv,_⟩,_⟩:=ok1.IM b' (.inl hi)
    exact .inl ⟨.inl hi,kF (lt_of_heap hv)⟩
   ·exact .inl ⟨.inr hi,ah⟩
   ·refine .inr ⟨rfl,⟨_,heap_alloc_new w _,trivial⟩,fun l e=>?_⟩
    have:=(ok1.rb _ _ e).1;omega
  ·intro l rc hl
   exact .inl ⟨hl,kF (ok1.rb _ _ (ok1.loop l rc hl).2.2.1).1⟩
  ·intro b' hd
   exact .inl ⟨hd,kF (lt_of_heap (ok1.D b' hd))⟩
 exact⟨yu,e1.trans e2,ho.below hB hB,fun _ h=>h,fun _ h=>.inl h,fun _ _ h=>.inl h,fun b hi=>hi.imp id (by rintro (rfl|rfl)<;>assumption)⟩
end
end aR
end
section
namespace aR
open Go Go.RowKit
section
variable (E:Env)
end
section
variable {E:Env}{K K':aU}{w w':World}{σ σ':ak}{B0:Nat}
def WB (vs:List V):V:=match vs with| [v]=>v|vs=>.bB vs
theorem aiQ (h:bE E B0 σ K w){fn:Func}{fr:Fr}{tmps:Array Value}(hf:kD K σ.top w fr tmps){vs:List V}(hvs:fn.results.toList.mapM (lu E fr σ)=some vs):
 ∃c,(results fn tmps).run E.P w= .ok c w/\Rel K σ.top w (WB vs) c:=by
 obtain⟨cs,k1,k2,k3⟩:=afF h hf fn.results.toList vs hvs;have hrun:(results fn tmps).run E.P w= .ok (if h:cs.toArray.size=1 then cs.toArray[0] else .tuple cs.toArray) w:=by have hres:results fn tmps=(do let vs<-fn.results.mapM (N9 tmps);pure (if h:vs.size=1 then vs[0] else .tuple vs)):=rfl;rw[hres,Array.mapM_eq_mapM_toList];simp only[Sem.run_bind,Sem.run_map,k1,Result.andThen_ok,Sem.run_pure]
 refine⟨_,hrun,?_⟩;cases vs with
 |nil=>
  have:cs=[]:=Um
  subst this;exact .bB [] #[] rfl (fun i hi=>absurd hi (gL i))
 |cons v1 vs=>
  cases cs with
  |nil=>simp at k2|cons c1 cs=>
   cases vs with
   |nil=>have:cs=[]:=Um;subst this;have:=k3 0 aD;show Rel K σ.top w v1 _;simpa using this|cons v2 vs=>have hsz2:¬((c1::cs).toArray.size=1):=(by simp only[List.length_cons,Nat.add_right_cancel_iff] at k2;rw[List.size_toArray,List.length_cons];omega);rw[dif_neg hsz2];refine .bB _ _ (by simpa using k2) (fun i hi=>?_);have:=k3 i hi;simpa [zu,List.getD] using this
theorem aiR {f:FuncId}{d:Nat}{fn:Func}{args:List V}{cO:Array Value}(hs:bE E B0 σ K w)(hB:B0<=w.heap.size)(hA:∀s,K.A s->s<σ.next)(hr:RelA K σ.top w args cO)(hlen:args.length<=fn.ntmps):
 St E B0 σ K w {d:=d,aj:=E.aj f,tm:=fun i=>args.getD i aL} {tmps:=cO++Array.replicate (fn.ntmps-cO.size) undef,defers:=[]} fn.ntmps ⟨[],w.heap.size,true⟩:=by
 have hsz:cO.size=args.length:=hr.1.symm;refine⟨hs,hB,fun t=>?_,eY,⟨[],rfl,List.nodup_nil,(fun b hb=>by cases hb),fun _=>rfl⟩,hA,iP _⟩;show Rel K σ.top w (args.getD t aL) _;by_cases ht:t<args.length
 ·have e1:(cO++Array.replicate (fn.ntmps-cO.size) undef).getD t undef=cO.getD t undef:=by simp only[zu];rw[Array.getElem?_append_left ah]
  rw[e1];exact hr.2 t ht
 ·have e1:(cO++Array.replicate (fn.ntmps-cO.size) undef).getD t undef=undef:=by simp only[zu];rw[Array.getElem?_append_right ah,Array.getElem?_replicate];split<;>rfl
  have e2:args.getD t aL=aL:=by simp[List.getD,List.getElem?_eq_none (Nat.le_of_not_lt ht)]
  rw[e1,e2];exact .undef _ _ _
theorem FK {F:Fence}{n:Nat}{P:Program}{ops:Array Oper}{Q:Exit->Act->World->Prop}{m:List Nat}:∀(l:List Nat)(a:Act)(w:World),
 wpOpsIn F n P ops (fun x a w=>match x with|.normal=>wpOpsIn F n P ops Q m a w|x=>Q x a w) l a w->wpOpsIn F n P ops Q (l++m) a w
 | [],a,w,h=>h|i::l,a,w,h=>by
  rw[List.cons_append];unfold wpOpsIn at h⊢;cases ho:ops[i]? with
  |none=>simp only[ho] at h⊢;exact FK l a w h|some o=>
   simp only[ho] at h⊢;split
   ·rename_i hw
    rw[if_pos hw] at h;refine⟨h.1,?_⟩;have h2:=h.2;revert h2;generalize (o.semAt F.round a.eval).run P w=res;intro h2;unfold Oper.uponIn at h2⊢;split at h2<;>try exact FK l _ _ h2
    all_goals first
     |exact h2
     | (refine⟨h2.1,h2.2.mono ?_⟩
        intro e w' hp;cases e<;>first|exact FK l _ _ hp|exact hp)
     | (refine⟨h2.1,?_⟩;exact RowsIn.mono h2.2 fun v w' hp=>FK l _ _ hp)
   ·rename_i hw
    rw[if_neg hw] at h;exact⟨h.1,FK l _ _ h.2⟩
theorem RelA.ext {K K':aU}{T T':Nat->Nat}{w w':World}(e:Ext K T w K' T' w'){l:List V}{cl:Array Value}(h:RelA K T w l cl):RelA K' T' w' l cl:=⟨h.1,fun i hi=>(h.2 i hi).ext e⟩
end
section
variable {E:Env}{S:kH}{B0 n:Nat}{σ σ' σ1:ak}{K K':aU}{w w':World}{fr fr' bM:Fr}{a:Act}{ds:Bc}{ro:Option Nat}
theorem abu {ops:Array Oper}{o:Oper}(hg:o.guard=none)(tmps:Array Value):Region.wanted o (yielded ops tmps)=true:=by unfold Region.wanted;rw[hg]
theorem aiS {o:Oper}{c:Value}{next:Act->World->Prop}{Q:Exit->Act->World->Prop}(hd:∀c,o.op≠ .defer c)(h:(execOp a.eval o).run E.P w= .ok (.value c) w')(hn:next (a.put o.dst c) w'):o.wpIn (kE ro) 0 E.P a w next Q:=by refine⟨fun f _=>trivial,?_⟩;rw[Ht _ _ hd,h];exact hn
theorem aiT (hE:kQ E)(hS:Sound E S){id:Nat}{ops:Array Oper}{k:Nat}{o:Oper}{Q:Exit->Act->World->Prop}(hsz:ops.size=k+1)(ho:ops[k]? =some o)(hg:o.guard=none)(hd:∀c,o.op≠ .defer c)(hpre:opsL E S ops.toList σ.next (List.range k) fr {σ with next:=σ.next+ops.size}=some (bM,σ1))(hs:St E B0 σ K w fr a n ds)(hok:wH n ops.toList=true)(hq:∀a1 K1 w1,St E B0 σ1 K1 w1 bM a1 n ds->Step E B0 (newer σ σ1) σ K w σ1 K1 w1->∃c w2,(execOp a1.eval o).run E.P w1= .ok (.value c) w2/\Q .normal (a1.put o.dst c) w2):(Code.region id ops false).wpIn (kE ro) 0 E.P Q a w:=by
 refine wpIn_region ?_;rw[hsz,List.range_succ];refine FK _ _ _ ?_;have hnx:=Bg hS _ _ _ _ _ hpre;simp only at hnx;have hs':St E B0 {σ with next:=σ.next+ops.size} K w fr a n ds:=⟨NP hs.ok _,hs.hB,hs.fr,hs.sz,hs.df,fun s h=>gM (hs.st s h) (gF _ _),hs.hD⟩;refine U0 hE hS ops σ.next hok ro _ (List.range k) fr _ K w a hpre List.nodup_range (fun i hi=>by have:=List.mem_range.1 hi;omega) hs' (iP _) (fun i hi hA=>by have:=hs.st _ hA;omega) ?_;intro a1 K1 w1 hs1 st1;have st':Step E B0 (newer σ σ1) {σ with next:=σ.next+ops.size} K w σ1 K1 w1:=st1.mono (fun s hs=>by
  rcases hs with h|h
  ·exact⟨h.1,ah⟩
  ·exact⟨dJ (gF _ _) h.1,h.2⟩)
 obtain⟨c,w2,h1,h2⟩:=hq a1 K1 w1 hs1 ⟨st'.ok,st'.ext,st'.below,st'.D,st'.A,st'.qp,st'.qw⟩;show wpOpsIn (kE ro) 0 E.P ops Q [k] a1 w1;unfold wpOpsIn;rw[ho];simp only[abu hg,if_true];exact aiS hd h1 h2
theorem abv (hE:kQ E)(hS:Sound E S){id:Nat}{ops:Array Oper}{m:Nat}{o:Oper}{Q:Exit->Act->World->Prop}(hsz:ops.size=m+1)(ho:ops[0]? =some o)(hg:o.guard=none)(hd:∀c,o.op≠ .defer c)(hok:wH n ops.toList=true){c:Value}{v:V}{w2:World}{K2:aU}{σ2:ak}(h1:(execOp a.eval o).run E.P w= .ok (.value c) w2)(h2:St E B0 σ2 K2 w2 (fr.put o.dst v) (a.put o.dst c) n ds)(hn2:σ2.next=σ.next+ops.size)(h3:∀s,K2.A s->s<σ.next){qX:Fr}{σ3:ak}(h4:opsL E S ops.toList σ.next (List.range' 1 m) (fr.put o.dst v) σ2=some (qX,σ3))(h5:σ.next+ops.size<=σ3.next->∀a3 qy w3,St E B0 σ3 qy w3 qX a3 n ds->Step E B0 (newer σ σ3) σ2 K2 w2 σ3 qy w3->Q .normal a3 w3):(Code.region id ops false).wpIn (kE ro) 0 E.P Q a w:=by
 refine wpIn_region ?_;rw[hsz,List.range_eq_range',List.range'_succ];unfold wpOpsIn;rw[ho];simp only[abu hg,if_true];refine aiS hd h1 ?_;have hnx:=Bg hS _ _ _ _ _ h4;rw[hn2] at hnx;refine U0 hE hS ops σ.next hok ro _ (List.range' 1 m) _ _ K2 w2 _ h4 List.nodup_range' (fun i hi=>by have:=List.mem_range'_1.1 hi;omega) h2 ah (fun i hi hA=>by have:=h3 _ hA;omega) ?_;intro a3 qy w3 hs3 mV;refine h5 hnx a3 qy w3 hs3 (mV.mono (fun s hs=>by
  rcases hs with h|h
  ·exact⟨h.1,ah⟩
  ·have:=h.1
   exact⟨ah,h.2⟩))
def dW (E:Env)(c:Code)(fr:Fr)(σ:ak)(Q:Ex->Fr->ak->Prop):Prop:=
 ∀ro B0 K w a n ds,St E B0 σ K w fr a n ds->jy n c=true->(ro=none/\ds.nm=false\/lX c=true)->c.wpIn (kE ro) 0 E.P (fun x a' w'=>∃e fr' σ',σ.next<=σ'.next/\Q e fr' σ'/\Bd E B0 n ds σ K w e fr' σ' x a' w') a w
theorem dW.mono {c:Code}{Q Q':Ex->Fr->ak->Prop}(h:dW E c fr σ Q)(hq:∀e fr' σ',Q e fr' σ'->Q' e fr' σ'):dW E c fr σ Q':=
 fun ro B0 K w a n ds hs hok hnr=>wpIn_mono (h ro B0 K w a n ds hs hok hnr) fun _ _ _ ⟨e,fr',σ',h1,h2,h3⟩=>⟨e,fr',σ',h1,hq _ _ _ h2,h3⟩
theorem dW.of {c:Code}{e:Ex}{Q:Ex->Fr->ak->Prop}(h:oJ E c fr σ e fr' σ')(hq:Q e fr' σ'):dW E c fr σ Q:=
 fun ro B0 K w a n ds hs hok hnr=>wpIn_mono (h.2 ro B0 K w a n ds hs hok hnr) fun _ _ _ hp=>⟨e,fr',σ',h.1,hq,hp⟩
theorem dW.cw (hE:kQ E){c:Code}{Q:Ex->Fr->ak->Prop}(h:bH E c fr σ Q):dW E c fr σ Q:=by obtain⟨m,e,fr',σ',h1,h2⟩:=h;exact .of (afE hE m (fun k _=>H6 hE k) c _ _ _ _ _ h1) h2
theorem dW.seq {x y:Code}{Q:Ex->Fr->ak->Prop}(h:dW E x fr σ fun e bM σ1=>match e with
 |.normal=>dW E y bM σ1 Q|e=>Q e bM σ1):dW E (.seq x y) fr σ Q:=by
 intro ro B0 K w a n ds hs hok hnr;simp only[jy,aT] at hok;simp only[lX,aT] at hnr;refine wpIn_seq (wpIn_mono (h ro B0 K w a n ds hs hok.1 (hnr.imp id And.left)) ?_);rintro z a1 w1 ⟨e,bM,σ1,h1,hq,hx,K1,s1,st1⟩;cases e with
 |normal=>
  cases z<;>simp only[lZ] at hx;refine wpIn_mono (hq ro B0 K1 w1 a1 n ds s1 hok.2 (hnr.imp id And.right)) ?_;rintro z a2 w2 ⟨e2,fI,σ2,h2,hq2,hp⟩;exact⟨e2,fI,σ2,dJ h1 h2,hq2,Bd.widen st1 h1 h2 _ _ _ hp⟩
 |exit i=>cases z<;>simp only[lZ] at hx;exact⟨_,_,_,h1,hq,hx,K1,s1,st1⟩|ret=>cases z<;>simp only[lZ] at hx;exact⟨_,_,_,h1,hq,hx,K1,s1,st1⟩
theorem dW.block {id:Nat}{c:Code}{Q:Ex->Fr->ak->Prop}(h:dW E c fr σ fun e bM σ1=>Q (NG id e) bM σ1):dW E (.block id c) fr σ Q:=by
 intro ro B0 K w a n ds hs hok hnr;refine wpIn_block (wpIn_mono (h ro B0 K w a n ds hs hok hnr) ?_);rintro x a1 w1 ⟨e,bM,σ1,h1,hq,hx,K1,s1,st1⟩;cases e with
 |normal=>cases x<;>simp only[lZ] at hx;exact⟨_,_,_,h1,hq,trivial,K1,s1,st1⟩|ret=>cases x<;>simp only[lZ] at hx;exact⟨_,_,_,h1,hq,trivial,K1,s1,st1⟩|exit i=>
  cases x<;>simp only[lZ] at hx;subst hx;simp only[Exit.inBlock,NG] at hq⊢;split at hq
  ·rename_i hi
   rw[if_pos hi];exact⟨_,_,_,h1,hq,trivial,K1,s1,st1⟩
  ·rename_i hi
   rw[if_neg hi];exact⟨_,_,_,h1,hq,rfl,K1,s1,st1⟩
end
section
variable {E:Env}{σ:ak}{fr:Fr}
def vC (es:Array MapEntry)(l:List Nat):Array Nat:=(l.map fun i=>(es.getD i default).born).toArray
theorem aiU (es:Array MapEntry)(l:List Nat)(i:Nat):vC es (l++[i])=(vC es l).push (es.getD i default).born:=by unfold vC;rw[nU,List.map_singleton];exact(List.push_toArray ..).symm
theorem aiV {es:Array MapEntry}{l:List Nat}{b:Nat}:(vC es l).contains b=true↔∃i∈l,(es.getD i default).born=b:=by unfold vC;rw[Array.contains_iff_mem];simp
theorem born_inj {es:Array MapEntry}{bX:Nat}(h:iV es bX){i j:Nat}(hi:i<es.size)(hj:j<es.size)(e:(es.getD i default).born=(es.getD j default).born):i=j:=by
 have hl:(es.toList.map MapEntry.born).length=es.size:=aD
 have hn:=h.2;have g:∀k (hk:k<es.size),(es.toList.map MapEntry.born)[k]'(by rw[hl];exact hk)=(es.getD k default).born:=fun k hk=>by simp[Array.getD,hk]
 rw[<-g i hi,<-g j hj] at e;have hp:=List.pairwise_iff_getElem.1 hn;rcases Nat.lt_trichotomy i j with h|h|h
 ·exact absurd e (hp i j (by rw[hl];exact hi) (by rw[hl];exact hj) h)
 ·exact h
 ·exact absurd e.symm (hp j i (by rw[hl];exact hj) (by rw[hl];exact hi) h)
theorem aiW {K:aU}{T:Nat->Nat}{w:World}{v c:Value}(h:Rel K T w (.raw v) c):c=v:=by cases h;rfl
theorem avx {w w1:World}{r:Nat}{o:Obj}(h:w1=w\/w1=w.drew):Only r w (Go.ChangeMaps.setBlock w1 r o):=by
 have e:w1.heap=w.heap/\w1.os=w.os/\w1.tape=w.tape/\w1.output=w.output:=by rcases h with rfl|rfl<;>exact⟨rfl,rfl,rfl,rfl⟩
 refine⟨e.2.1,e.2.2.1,e.2.2.2,?_,fun k hk hlt=>?_,by rcases h with rfl|rfl;exact iP _;exact j4 _⟩
 ·show w.heap.size<=(w1.heap.setIfInBounds r o).size
  rw[e.1,Array.size_setIfInBounds];exact iP _
 ·show (w1.heap.setIfInBounds r o)[k]? =w.heap[k]?
  rw[e.1,Array.getElem?_setIfInBounds_ne (Ne.symm hk)]
theorem avy {w w1:World}{r:Nat}{o o':Obj}(h:w1=w\/w1=w.drew)(hr:w.heap[r]? =some o'):(Go.ChangeMaps.setBlock w1 r o).heap[r]? =some o:=by
 have hlt:r<w.heap.size:=lt_of_heap hr;have e:w1.heap=w.heap:=by rcases h with rfl|rfl<;>rfl
 show (w1.heap.setIfInBounds r o)[r]? =some o;rw[e,Array.getElem?_setIfInBounds_self_of_lt hlt]
theorem avz {l:List Nat}{n i:Nat}(hn:l.Nodup)(hl:∀j∈l,j<n)(hi:i∉l)(h:i<n):l.length<n:=by
 have h1:(i::l).Nodup:=uK.2 ⟨hi,hn⟩;have:=h1.length_le_of_subset (l₂:=List.range n) fun j hj=>by
  rcases fV.1 hj with rfl|hj
  ·exact List.mem_range.2 h
  ·exact List.mem_range.2 (hl j hj)
 rw[List.length_range] at this;exact this
theorem dW.rangeMap (hE:kQ E){N:Nat}{i0 i1 i2 out aiX:Nat}{Pv FL FM:Array Oper}{body:Code}{it nx more pair k0 m2:Nat}{o0 o1 o2:Oper}{t kt et:TypeId}{x:Operand}{uy:Fr}{iy:ak}{loc:Loc}{st:Nat}{ks vs:List V}{J:List (V×V)->Fr->ak->Prop}{Q:Ex->Fr->ak->Prop}(h0:opsL E (dX E N) Pv.toList σ.next (List.range k0) fr {σ with next:=σ.next+Pv.size}=some (uy,iy))(avA:Pv.size=k0+1)(aiY:Pv[k0]? =some o0)(avB:o0.guard=none)(aiZ:o0.op= .range t x)(ai0:o0.dst=some it)(hx:uy.ev E x= .cu loc st)(hm:iy.obj loc=some (st,.map ks vs))(hu:E.P.underlying t=some (.map kt et))(Jm:FL.size=2)(abw:FL[0]? =some o1)(ai1:o1.guard=none)(abx:o1.op= .next (.tmp it) false)(h1d:o1.dst=some nx)(ai2:∀(fr:Fr) (σ:ak) base b l,opsL E (dX E N) FL.toList base (List.range' 1 1) (fr.put (some nx) (.bB (.bool b::l))) σ=some ((fr.put (some nx) (.bB (.bool b::l))).put (some more) (.bool b),σ))(avC:FM.size=m2+1)(ai3:FM[0]? =some o2)(avD:o2.guard=none)(ai4:o2.op= .entry (.tmp it))(aby:o2.dst=some pair)(hne:it≠nx/\it≠more/\it≠pair)(hJ0:∀p,J [] (uy.put (some it) (.raw p)) (iy.eu loc))(hJ:∀done fr σ k v,J done fr σ->(k,v)∈ks.zip vs->done.length< (ks.zip vs).length->∃fI σ2,opsL E (dX E N) FM.toList (σ.next+2) (List.range' 1 m2) (((fr.put (some nx) (.bB [.bool true,k,v])).put (some more) (.bool true)).put (some pair) (.bB [k,v])) {σ with next:=σ.next+2+FM.size}=some (fI,σ2)/\fI.tm it=fr.tm it/\
   dW E body fI σ2 fun e qX σ3=>e= .normal/\qX.tm it=fr.tm it/\J (done++[(k,v)]) qX σ3)(hQ:∀done fr σ,J done fr σ->done.Perm (ks.zip vs)->Q .normal ((fr.put (some nx) (.bB [.bool false])).put (some more) (.bool false)) {σ with next:=σ.next+2}):
 dW E (.seq (.region i0 Pv false) (.block out (.loop (.seq (.region i1 FL false) (.seq (.cond (.tmp more) .skip (.exit out)) (.block aiX (.seq (.region i2 FM false) body))))))) fr σ Q:=by
 have hS:=H6 hE N;intro ro B0 K w a n ds hs hok hnr;simp only[jy,aT] at hok;obtain⟨hok0,hok1,_,hok2,avE⟩:=hok;simp only[lX,aT,true_and] at hnr;have hdst:∀{ops:Array Oper}{j:Nat}{o:Oper}{d:Nat},wH n ops.toList=true->ops[j]? =some o->o.dst=some d->d<n:=by intro ops j o d hok ho hd;simp only[wH,kG] at hok;have:=hok o (Array.mem_toList_iff.2 (Array.mem_of_getElem? ho));rw[hd] at this;simpa using this
 have hnd:∀{o:Oper}{p:Op},o.op=p->(∀c,p≠ .defer c)->∀c,o.op≠ .defer c:=fun h hp c=>by rw[h];exact hp c
 have avF:=hdst hok0 aiY ai0;have ai5:=hdst hok1 abw h1d;have avG:=hdst hok2 ai3 aby;have avH:=Bg hS _ _ _ _ _ h0;simp only at avH;refine wpIn_seq ?_;refine aiT hE hS avA aiY avB (hnd aiZ aD) h0 hs hok0 (fun a1 K1 w1 s1 st1=>?_);obtain⟨hA,⟨hb0,es,bX,g1,g2,g3,g4,g5,g6⟩,hρ⟩:=s1.ok.obj _ _ _ hm;have hev:=xZ s1.ok s1.fr x;rw[hx] at hev;generalize hcx:a1.eval x=cx at hev;cases hev with|cu _ _ hA'=>
 refine⟨.pointer (some ⟨w1.heap.size,0,none⟩),w1.alloc (.mapIter (some (K1.blk st)) bX #[] bX),?_,?_⟩
 ·unfold execOp
  simp only[aiZ,hcx,Sem.run_bind,Sem.run_pure,Go.run_range_map w1 t kt et (K1.blk st) es bX hu g1,Result.andThen_ok]
 have st2:=Step.iterate (new:=fun _=>False) s1.ok s1.hB hm g1;have avI:K1.blk st<w1.heap.size:=lt_of_heap g1;generalize hK2:({K1 with IM:=fun b=>K1.IM b\/b=K1.blk st\/b=w1.heap.size,ρ:=upd K1.ρ (K1.blk st) none}:aU)=K2 at st2;have ai6:K2.IM (K1.blk st)/\K2.IM w1.heap.size:=by subst hK2;exact⟨.inr (.inl rfl),.inr (.inr rfl)⟩
 have hA2:∀s,K2.A s->K1.A s:=by subst hK2;exact fun _ h=>h
 have hw2:(w1.alloc (.mapIter (some (K1.blk st)) bX #[] bX)).heap[w1.heap.size]? =some (.mapIter (some (K1.blk st)) bX #[] bX):=heap_alloc_new ..;have hm2:(w1.alloc (.mapIter (some (K1.blk st)) bX #[] bX)).heap[K1.blk st]? =some (.map es bX):=(heap_alloc_old avI).trans g1;generalize aEL:K1.blk st=bm at*;generalize hrd:w1.heap.size=r at*;generalize aEM:w1.alloc (.mapIter (some bm) bX #[] bX)=w2 at*;have s2:St E B0 (iy.eu loc) K2 w2 (uy.put (some it) (.raw (.pointer (some ⟨r,0,none⟩)))) (a1.put (some it) (.pointer (some ⟨r,0,none⟩))) n ds:=s1.put st2 (.raw _) (fun i hi=>by cases hi;exact avF) (fun s hs'=>s1.st s (hA2 s hs'));have stA:Step E B0 (newer σ iy) σ K w (iy.eu loc) K2 w2:=st1.trans (st2.mono (fun _ h=>h.elim));have hr0:w.heap.size<=r:=by rw[<-hrd];exact st1.below.size
 rw[ai0];show (Code.block out _).wpIn (kE ro) 0 E.P _ _ _;refine wpIn_block ?_;refine afC (fun cnt a' w'=>∃(is:List Nat) (fr':Fr) (σ':ak) (K':aU),St E B0 σ' K' w' fr' a' n ds/\σ.next<=σ'.next/\Step E B0 (newer σ σ') σ K w σ' K' w'/\K'.IM bm/\w'.heap[bm]? =some (.map es bX)/\K'.IM r/\w'.heap[r]? =some (.mapIter (some bm) bX (vC es is) bX)/\
  (∀i,i<es.size->Rel K' σ'.top w' (ks.getD i aL) (es.getD i default).key/\Rel K' σ'.top w' (vs.getD i aL) (es.getD i default).val)/\is.Nodup/\(∀i∈is,i<es.size)/\fr'.tm it= .raw (.pointer (some ⟨r,0,none⟩))/\J (is.map fun i=>(ks.getD i aL,vs.getD i aL)) fr' σ'/\(leftOf es (vC es is)).size=cnt) (leftOf es #[]).size ?_ ?_
 ·refine⟨[],_,_,K2,s2,?_,stA,ai6.1,hm2,ai6.2,hw2,fun i hi=>⟨(g5 i hi).ext st2.ext,(g6 i hi).ext st2.ext⟩,List.nodup_nil,fun i hi=>(by cases hi),?_,hJ0 _,rfl⟩
  ·show σ.next<=iy.next;omega
  ·show upd uy.tm it _ it=_
   exact upd_same _ _ _
 intro cnt a' w' ⟨is,fr',σ',K',s3,WC,mV,m1,WE,m3,m4,m5,m6,m7,m8,m9,m10⟩;have hit:a'.eval (.tmp it)= .pointer (some ⟨r,0,none⟩):=by have:=s3.fr it;rw[m8] at this;exact aiW this
 have hold:∀y∈es.toList,y.born<bX:=fun y hy=>g2.1 _ (xL.2 ⟨y,hy,rfl⟩);refine wpIn_seq ?_;have ai7:∀{cv:Value}{w3:World},(Instr.next (.pointer (some ⟨r,0,none⟩)) false o1.type).run E.P w'= .ok cv w3->(execOp a'.eval o1).run E.P w'= .ok (.value cv) w3:=by intro cv w3 h;unfold execOp;simp only[abx,hit,Sem.run_bind,Sem.run_pure,h,Result.andThen_ok]
 have ai8:∀{yL:aU}{w4:World}{ai9:Fr}{a4:Act}(k:Nat),St E B0 σ' yL w4 ai9 a4 n ds->St E B0 {σ' with next:=σ'.next+k} yL w4 ai9 a4 n ds:=fun k h=>⟨NP h.ok _,h.hB,h.fr,h.sz,h.df,fun s hs=>gM (h.st s hs) (gF _ _),h.hD⟩;rcases run_next_at (P:=E.P) w' o1.type r bm bX bX (vC es is) es bX m4 WE hold (iP _) with ⟨hz,hrun⟩| ⟨e,he,wt,hwt,hrun⟩
 ·
  refine abv (B0:=B0) (ds:=ds) (fr:=fr') hE hS (m:=1) (by rw[Jm]) abw ai1 (hnd abx aD) hok1 (ai7 hrun) (v:=.bB [.bool false]) (K2:=K') (σ2:={σ' with next:=σ'.next+FL.size}) ?_ rfl (fun s hs=>s3.st s hs) (by rw[h1d];exact ai2 _ _ _ false []) (fun _ a4 yL w4 s4 pQ=>?_)
  ·rw[h1d]
   refine ai8 _ (s3.put (Step.refl (new:=fun _=>False) s3.ok) ?_ (fun i hi=>by cases hi;exact ai5) s3.st);exact .bB _ _ rfl fun i hi=>by have:i=0:=MZ;subst this;exact .bool false
  ·refine wpIn_seq ?_
   have hmo:a4.eval (.tmp more)= .bool false:=by have:=s4.fr more;rw[show (((fr'.put (some nx) (.bB [.bool false])).put (some more) (.bool false)).tm more)= .bool false from upd_same _ _ _] at this;generalize hc:a4.tmps.getD more undef=c at this;cases this;exact hc
   refine wpIn_cond_false hmo (wpIn_exit ?_);simp only[Exit.then,Exit.inBlock,if_true];have hperm:(is.map fun i=>(ks.getD i aL,vs.getD i aL)).Perm (ks.zip vs):=by
    have hall:=all_seen es (vC es is) hz;have e1:ks.zip vs=(List.range es.size).map fun i=>(ks.getD i aL,vs.getD i aL):=by
     apply List.ext_getElem
     ·simp[g3,g4]
     ·intro i h1 h2
      simp only[List.length_zip,g3,g4,Nat.min_self] at h1;simp[List.getD,g3,g4,h1]
    rw[e1];refine List.Perm.map _ ((List.perm_ext_iff_of_nodup m6 List.nodup_range).2 fun i=>⟨fun h=>List.mem_range.2 (m7 i h),fun h=>?_⟩);have hi:=List.mem_range.1 h;have hmem:es.getD i default∈es.toList:=(by have:es.getD i default=es[i]:=(by simp[Array.getD,hi]);rw[this];simp);obtain⟨j,hj,hb⟩:=aiV.1 (hall _ hmem);rw[<-born_inj g2 (m7 j hj) hi hb];exact hj
   have hq:=hQ _ _ _ m9 hperm;have avJ:Step E B0 (newer σ {σ' with next:=σ'.next+2}) σ K w {σ' with next:=σ'.next+2} yL w4:=by have a1:=mV.mono (new':=newer σ {σ' with next:=σ'.next+2}) (fun s hs=>⟨hs.1,gM hs.2 (gF _ _)⟩);have a2:Step E B0 (newer σ {σ' with next:=σ'.next+2}) σ' K' w' {σ' with next:=σ'.next+FL.size} yL w4:=(by have:=pQ.mono (new':=newer σ {σ' with next:=σ'.next+2}) (fun s hs=>⟨dJ WC hs.1,by have:=hs.2;rw[Jm] at this;exact this⟩);exact⟨this.ok,this.ext,this.below,this.D,this.A,this.qp,this.qw⟩);rw[Jm] at a2;exact a1.trans a2
   rw[Jm] at s4;exact⟨.normal,_,_,dJ WC (gF _ _),hq,trivial,yL,s4,avJ⟩
 ·
  obtain⟨hem,hes⟩:=mem_left he;obtain⟨i,hi,hie⟩:∃i,∃hi:i<es.size,es[i]=e:=by obtain⟨i,hi,h⟩:=List.getElem_of_mem hem;exact⟨i,jm,xJ⟩
  have hgd:es.getD i default=e:=by rw[<-hie];simp[Array.getD,hi]
  have hnot:i∉is:=fun hin=>by have:=(aiV (es:=es) (b:=e.born)).2 ⟨i,hin,by rw[hgd]⟩;rw[hes] at this;cases this
  have ho:=avx (w:=w') (r:=r) (o:=.mapIter (some bm) bX ((vC es is).push e.born) bX) hwt;have hr':=avy (o:=.mapIter (some bm) bX ((vC es is).push e.born) bX) hwt m4;generalize Go.ChangeMaps.setBlock wt r (.mapIter (some bm) bX ((vC es is).push e.born) bX)=w5 at*;have hbr:bm≠r:=abt m4 WE aD;have aja:w5.heap[bm]? =some (.map es bX):=(ho.block bm hbr (lt_of_heap WE)).trans WE;have hk:=(m5 i hi).1.turn m4 ho;have hv:=(m5 i hi).2.turn m4 ho;rw[hgd] at hk hv;have s5:St E B0 σ' K' w5 fr' a' n ds:=⟨s3.ok.turn m4 ho hr',dJ s3.hB ho.size,s3.fr.turn m4 ho,s3.sz,s3.df,s3.st,dJ s3.hD ho.size⟩;have avK:Step E B0 (newer σ σ') σ K w σ' K' w5:=mV.turn hs.ok hs.hB hr0 m4 ho hr';refine abv (B0:=B0) (ds:=ds) (fr:=fr') hE hS (m:=1) (by rw[Jm]) abw ai1 (hnd abx aD) hok1 (ai7 hrun) (v:=.bB [.bool true,ks.getD i aL,vs.getD i aL]) (K2:=K') (σ2:={σ' with next:=σ'.next+FL.size}) ?_ rfl (fun s hs=>s3.st s hs) (by rw[h1d];exact ai2 _ _ _ true [ks.getD i aL,vs.getD i aL]) (fun _ a4 yL w4 s4 pQ=>?_)
  ·rw[h1d]
   refine ai8 _ (s5.put (Step.refl (new:=fun _=>False) s5.ok) ?_ (fun i hi=>by cases hi;exact ai5) s5.st);refine .bB _ _ rfl fun j hj=>?_
   match j,hj with
   |0,_=>exact .bool true|1,_=>exact hk|2,_=>exact hv
  ·rw[Jm] at s4 pQ
   have aaW:=pQ.ext.IM bm m1;have avL:=pQ.ext.IM r m3;refine wpIn_seq ?_;have hmo:a4.eval (.tmp more)= .bool true:=by have:=s4.fr more;rw[show (((fr'.put (some nx) (.bB [.bool true,ks.getD i aL,vs.getD i aL])).put (some more) (.bool true)).tm more)= .bool true from upd_same _ _ _] at this;generalize hc:a4.tmps.getD more undef=c at this;cases this;exact hc
   refine wpIn_cond_true hmo (wpIn_skip ?_);show (Code.block aiX _).wpIn (kE ro) 0 E.P _ a4 w4;refine wpIn_block (wpIn_seq ?_);obtain⟨aEN,avM,q1,q2,q3⟩:=hJ _ _ _ (ks.getD i aL) (vs.getD i aL) m9 (by
    have hki:i<ks.length:=ah;have ED:i<vs.length:=ah;have:(ks.getD i aL,vs.getD i aL)=(ks.zip vs)[i]'(by rw[List.length_zip];omega):=(by simp[List.getD,hki,ED]);rw[this];exact jQ _) (by
    rw[iG,List.length_zip,g3,g4,Nat.min_self];exact avz m6 m7 hnot hi)
   have avN:a4.eval (.tmp it)= .pointer (some ⟨r,0,none⟩):=by have:=s4.fr it;rw[show (((fr'.put (some nx) (.bB [.bool true,ks.getD i aL,vs.getD i aL])).put (some more) (.bool true)).tm it)=fr'.tm it from (upd_ne _ _ hne.2.1).trans (upd_ne _ _ hne.1),m8] at this;exact aiW this
   have avO:(execOp a4.eval o2).run E.P w4= .ok (.value (.tuple #[e.key,e.val])) w4:=by have:=run_entry_at (P:=E.P) w4 r bm bX (vC es is) es bX e (avL.2.trans hr') (aaW.2.trans aja) hem g2.2;unfold execOp;simp only[ai4,avN,Sem.run_bind,Sem.run_pure,this,Result.andThen_ok]
   have hk4:=hk.ext pQ.ext;have hv4:=hv.ext pQ.ext;refine abv (B0:=B0) (ds:=ds) (fr:=(fr'.put (some nx) (.bB [.bool true,ks.getD i aL,vs.getD i aL])).put (some more) (.bool true)) (σ:={σ' with next:=σ'.next+2}) hE hS (m:=m2) avC ai3 avD (hnd ai4 aD) hok2 avO (v:=.bB [ks.getD i aL,vs.getD i aL]) (K2:=yL) (σ2:={σ' with next:=σ'.next+2+FM.size}) ?_ rfl (fun s hs=>s4.st s hs) (by rw[aby];exact q1) (fun avP a7 ajb w7 s7 abz=>?_)
   ·rw[aby]
    have s8:St E B0 {σ' with next:=σ'.next+2+FM.size} yL w4 ((fr'.put (some nx) (.bB [.bool true,ks.getD i aL,vs.getD i aL])).put (some more) (.bool true)) a4 n ds:=⟨NP s4.ok _,s4.hB,s4.fr,s4.sz,s4.df,fun s hs=>gM (s4.st s hs) (gF _ _),s4.hD⟩;refine s8.put (Step.refl (new:=fun _=>False) s8.ok) ?_ (fun i hi=>by cases hi;exact avG) s8.st;refine .bB _ _ rfl fun j hj=>?_
    match j,hj with
    |0,_=>exact hk4|1,_=>exact hv4
   ·simp only at avP
    have avQ:ro=none/\ds.nm=false\/lX body=true:=hnr.imp id (fun h=>h);refine wpIn_mono (q3 ro B0 ajb w7 a7 n ds s7 avE avQ) ?_;rintro z a9 avR ⟨e9,avS,BN,avT,⟨rfl,q4,q5⟩,avU,ajc,s9,abA⟩;cases z<;>simp only[lZ] at avU;show∃n',n'<cnt/\_;have FN:Step E B0 (newer σ' BN) σ' K' w5 BN ajc avR:=(by have a1:Step E B0 (newer σ' BN) σ' K' w5 {σ' with next:=σ'.next+2} yL w4:=(by have:=pQ.mono (new':=newer σ' BN) (fun s hs=>⟨hs.1,by have:=hs.2;simp only at this;omega⟩);exact⟨this.ok,this.ext,this.below,this.D,this.A,this.qp,this.qw⟩);have a2:Step E B0 (newer σ' BN) {σ' with next:=σ'.next+2} yL w4 avM ajb w7:=(by have:=abz.mono (new':=newer σ' BN) (fun s hs=>⟨by have:=hs.1;simp only at this;omega,gM hs.2 avT⟩);exact⟨this.ok,this.ext,this.below,this.D,this.A,this.qp,this.qw⟩);have a3:=abA.mono (new':=newer σ' BN) (fun s hs=>⟨by have:=hs.1;omega,hs.2⟩);exact(a1.trans a2).trans a3);have ajd:σ'.next<=BN.next:=ah;refine⟨_,?_,is++[i],avS,BN,ajc,s9,dJ WC ajd,avK.widen FN WC ajd,(FN.ext.IM bm m1).1,(FN.ext.IM bm m1).2.trans aja,(FN.ext.IM r m3).1,?_,fun j hj=>⟨((m5 j hj).1.turn m4 ho).ext FN.ext,((m5 j hj).2.turn m4 ho).ext FN.ext⟩,?_,?_,q4.trans m8,?_,rfl⟩
    ·rw[aiU,hgd,<-m10]
     exact left_shrinks es _ e he
    ·rw[aiU,hgd]
     exact(FN.ext.IM r m3).2.trans hr'
    ·exact List.nodup_append.2 ⟨m6,List.pairwise_singleton _ _,fun a ha b hb=>by rw[jk.1 hb];rintro rfl;exact hnot ha⟩
    ·intro j hj
     rcases nG.1 hj with hj|hj
     ·exact m7 j hj
     ·rw[jk.1 hj];exact hi
    ·rw[nU,List.map_singleton];exact q5
end
section
variable (E:Env)
end
section
variable {E:Env}{K K':aU}{w w':World}{σ σ':ak}{B0:Nat}
end
section
variable (E:Env)
end
section
variable {E:Env}{K K':aU}{w w':World}{σ σ':ak}{B0:Nat}
end
variable {E:Env}
theorem avV {f:FuncId}{args:List V}{v:V}{fn:Func}{c:Code}(hfn:E.P.funcs[f]? =some fn)(hc:fn.body=some c)(hlen:args.length<=fn.ntmps)(abB:jy fn.ntmps c=true)(h:dW E c {d:=1,aj:=E.aj f,tm:=fun i=>args.getD i aL} ak.init fun e bM σ1=>(e= .normal\/e= .ret)/\∃vs,fn.results.toList.mapM (lu E bM σ1)=some vs/\bG 20 σ1 (WB vs)=some v):oK E f args v:=by
 refine⟨⟨fn,c,hfn,hc⟩,fun I IM w cO hl hr=>?_⟩;have hs:=UN hl;have hr':RelA (aU.lend I IM) ak.init.top w args cO:=hr;have vD:=aiR (E:=E) (f:=f) (d:=1) (fn:=fn) hs (iP w.heap.size) (fun s hs=>hs.elim) hr' hlen;have hst:St E w.heap.size ak.init (aU.lend I IM) w {d:=1,aj:=E.aj f,tm:=fun i=>args.getD i aL} {tmps:=cO++Array.replicate (fn.ntmps-cO.size) undef,defers:=[]} fn.ntmps ⟨[],w.heap.size,false⟩:=
  ⟨vD.ok,vD.hB,vD.fr,vD.sz,⟨[],rfl,List.nodup_nil,(fun b hb=>by cases hb),fun _=>rfl⟩,vD.st,vD.hD⟩
 have hwp:=h none _ _ w _ fn.ntmps ⟨[],w.heap.size,false⟩ hst abB (.inl ⟨rfl,rfl⟩);refine callsIn_of_wp_marks hfn hc trivial (wpIn_mono hwp ?_);rintro x a' w' ⟨e,bM,σ1,_,⟨hne,vs,hvs,hzv⟩,hx,K',hs',st'⟩;have hleave:LeavesInM Fence.wide 0 E.P fn a'.tmps (ae0 I IM w v) a'.defers .returning w':=by
  obtain⟨bs,d1,d2,d3,_⟩:=hs'.df;rw[d1,nV];refine Zi (B1:=w.heap.size) (iP _) (aU.lend I IM).D bs K' w' hs'.ok hs'.hB d2 d3 st'.D (fun b hb=>lt_of_heap (hs.D b hb)) (fun w1 uX=>?_);have yu:=uX.ok;have hf2:kD {K' with D:=(aU.lend I IM).D} σ1.top w1 bM a'.tmps:=by have e1:Ext K' σ1.top w' {K' with D:=(aU.lend I IM).D} σ1.top w1:=(HY K' σ1.top w' (aU.lend I IM).D).trans uX.ext;exact hs'.fr.ext e1
  obtain⟨cv,r1,r2⟩:=aiQ yu hf2 hvs;have Dc:Step E w.heap.size (newer ak.init σ1) ak.init (aU.lend I IM) w σ1 {K' with D:=(aU.lend I IM).D} w1:=
   ⟨yu,st'.ext.trans ((HY K' σ1.top w' (aU.lend I IM).D).trans uX.ext),st'.below.trans uX.below,fun _ h=>h,st'.A,st'.qp,st'.qw⟩
  refine⟨cv,r1,Dc.below,?_⟩;have:=YX (T':=fun _=>0) yu 20 _ v cv r2 hzv;refine this.NH (fun b o hi=>⟨⟨?_,hi.2⟩,rfl⟩) (fun b hi=>⟨⟨?_,hi.2⟩,rfl⟩)
  ·rcases hi.1 with h1|h1
   ·exact Dc.qp b o h1
   ·exact .inr h1
  ·rcases hi.1 with h1|h1
   ·exact Dc.qw b h1
   ·exact .inr h1
 rcases hne with rfl|rfl<;>cases x<;>simp only[lZ] at hx<;>exact hleave
end aR
end
section
namespace aR
open Go Go.RowKit
section
variable {E:Env}{S:kH}{B0 n:Nat}{σ σ' σ1:ak}{K K':aU}{w w':World}{fr fr' bM:Fr}{a:Act}{ds:Bc}{ro:Option Nat}
theorem avW {P:Program}{w:World}(op:BinOp)(t:TypeId)(ox oy:Operand){e:TypeId}(hu:P.underlying t=some (.slice e)){ad WG:Option Addr}{n c n' c':Nat}:(eqGuard op t ox oy (.slice ad n c) (.slice WG n' c')).run P w= .ok () w:=by
 have hg0:∀d,(Go.Op.eqGuardIn (d+1) t (.slice ad n c) (.slice WG n' c')).run P w= .ok false w:=fun d=>by simp[Go.Op.eqGuardIn,run_underlying hu]
 have hg:(Go.Op.eqGuardIn Go.Op.maxDepth t (.slice ad n c) (.slice WG n' c')).run P w= .ok false w:=hg0 9999;unfold eqGuard;generalize Go.Op.eqGuardIn Go.Op.maxDepth t (.slice ad n c) (.slice WG n' c')=s at hg⊢;cases op<;>simp[hg]
theorem dW.aje {c:Operand}{x y:Code}{t:Bool}{Q:Ex->Fr->ak->Prop}(hc:fr.ev E c= .bool t)(h:dW E (if t then x else y) fr σ Q):dW E (.cond c x y) fr σ Q:=by
 intro ro B0 K w ac n ds hs hok hnr;simp only[jy,aT] at hok;simp only[lX,aT] at hnr;refine wpIn_cond (YR (xZ hs.ok hs.fr c) (show zD (fr.ev E c)=some t by rw[hc];rfl)) (h ro B0 K w ac n ds hs ?_ ?_)
 ·cases t
  ·exact hok.2
  ·exact hok.1
 ·cases t
  ·exact hnr.imp id And.right
  ·exact hnr.imp id And.left
theorem dW.ajf (hE:kQ E){N id k:Nat}{ops:Array Oper}{o:Oper}{t:Nat}{ty e ajg:TypeId}{x:Operand}{c:Cap}{Q:Ex->Fr->ak->Prop}(hsz:ops.size=k+1)(ho:ops[k]? =some o)(hg:o.guard=none)(hop:o.op= .binOp .eql ty x (.const (.slice none 0 0)) ajg)(hd:o.dst=some t)(hpre:opsL E (dX E N) ops.toList σ.next (List.range k) fr {σ with next:=σ.next+ops.size}=some (bM,σ1))(hu:E.P.underlying ty=some (.slice e))(hv:bM.ev E x= .ay c [])(hQ:∀b,Q .normal (bM.put (some t) (.bool b)) σ1):dW E (.region id ops false) fr σ Q:=by
 intro ro B0 K w a n ds hs hok hnr;have hS:=H6 hE N;have hnx:=Bg hS _ _ _ _ _ hpre;simp only at hnx;have hok':wH n ops.toList=true:=hok;have dt:t<n:=by have:=kG.1 hok' o (by rw[Array.mem_toList_iff];exact Array.mem_of_getElem? ho);rw[hd] at this;exact of_decide_eq_true this
 refine aiT hE hS hsz ho hg (by intro d hh;rw[hop] at hh;cases hh) hpre hs hok' (fun a1 K1 w1 s1 st1=>?_);have hev:=xZ s1.ok s1.fr x;rw[hv] at hev;have hsl:∃ad n' cap,a1.eval x= .slice ad n' cap:=by
  generalize a1.eval x=cx at hev;generalize hll:([]:List V)=ll at hev;cases hev with
  |eP=>exact⟨_,_,_,rfl⟩|ay=>exact⟨_,_,_,rfl⟩
 obtain⟨ad,n',cap,hcx⟩:=hsl;refine⟨.bool ad.isNone,w1,?_,.normal,bM.put (some t) (.bool ad.isNone),σ1,ah,hQ _,trivial,K1,?_,st1⟩
 ·unfold execOp
  simp only[hop];rw[hcx];have hce:a1.eval (.const (.slice none 0 0))= .slice none 0 0:=rfl;rw[hce];simp only[Sem.run_bind,Sem.run_pure,avW .eql ty x (.const (.slice none 0 0)) hu,Go.Lib.run_eql_slice_nil w1 ty e ad n' cap 0 0 hu,Result.andThen_ok]
 ·rw[hd]
  exact s1.put (new:=fun _=>False) (.refl s1.ok) (.bool _) (fun i hi=>by cases hi;exact dt) s1.st
end
section
variable {E:Env}
def WH (P:Program)(glob:Nat->Option (List V))(f:FuncId):Prop:=∀(E:Env),E.P=P->E.glob=glob->∀I IM w cO,zK E I IM w->RelA (aU.lend I IM) (fun _=>0) w [.ay .sh []] cO->CallsIn Fence.wide 0 P f cO w (fun e w'=>∃ad,e= .returned (.slice ad 0 0)/\Below w.heap.size w w')
theorem zK.env {E E':Env}{I:Nat->Nat->Prop}{IM:Nat->Prop}{w:World}(hg:E'.glob=E.glob)(h:zK E I IM w):zK E' I IM w:=⟨h.1,h.2.1,fun g cs hh=>h.2.2 g cs (by rw[<-hg];exact hh)⟩
theorem ajh {f:FuncId}{fn:Func}{c:Code}(hfn:E.P.funcs[f]? =some fn)(hc:fn.body=some c)(hlen:1<=fn.ntmps)(abB:jy fn.ntmps c=true)(h:dW E c {d:=1,aj:=E.aj f,tm:=fun i=>([.ay .sh []]:List V).getD i aL} ak.init fun e bM σ1=>(e= .normal\/e= .ret)/\∃v,fn.results.toList.mapM (lu E bM σ1)=some [v]/\(v= .ay .nil []\/v= .ay .full [])):WH E.P E.glob f:=by
 intro E' hP hg I IM w cO hl' hr;have hl:zK E I IM w:=hl'.env hg.symm;have hs:=UN hl;have hr':RelA (aU.lend I IM) ak.init.top w [.ay .sh []] cO:=hr;have vD:=aiR (E:=E) (f:=f) (d:=1) (fn:=fn) hs (iP w.heap.size) (fun s hs=>hs.elim) hr' hlen;have hst:St E w.heap.size ak.init (aU.lend I IM) w {d:=1,aj:=E.aj f,tm:=fun i=>([.ay .sh []]:List V).getD i aL} {tmps:=cO++Array.replicate (fn.ntmps-cO.size) undef,defers:=[]} fn.ntmps ⟨[],w.heap.size,false⟩:=
  ⟨vD.ok,vD.hB,vD.fr,vD.sz,⟨[],rfl,List.nodup_nil,(fun b hb=>by cases hb),fun _=>rfl⟩,vD.st,vD.hD⟩
 have hwp:=h none _ _ w _ fn.ntmps ⟨[],w.heap.size,false⟩ hst abB (.inl ⟨rfl,rfl⟩);refine callsIn_of_wp_marks hfn hc trivial (wpIn_mono hwp ?_);rintro x a' w' ⟨e,bM,σ1,_,⟨hne,v,hvs,hv⟩,hx,K',hs',st'⟩;have hleave:LeavesInM Fence.wide 0 E.P fn a'.tmps (fun e w'=>∃ad,e= .returned (.slice ad 0 0)/\Below w.heap.size w w') a'.defers .returning w':=by
  obtain⟨bs,d1,d2,d3,_⟩:=hs'.df;rw[d1,nV];refine Zi (B1:=w.heap.size) (iP _) (aU.lend I IM).D bs K' w' hs'.ok hs'.hB d2 d3 st'.D (fun b hb=>lt_of_heap (hs.D b hb)) (fun w1 uX=>?_);have yu:=uX.ok;have hf2:kD {K' with D:=(aU.lend I IM).D} σ1.top w1 bM a'.tmps:=by have e1:Ext K' σ1.top w' {K' with D:=(aU.lend I IM).D} σ1.top w1:=(HY K' σ1.top w' (aU.lend I IM).D).trans uX.ext;exact hs'.fr.ext e1
  obtain⟨cv,r1,r2⟩:=aiQ yu hf2 hvs;have hb:Below w.heap.size w w1:=st'.below.trans uX.below;have r2':Rel {K' with D:=(aU.lend I IM).D} σ1.top w1 v cv:=r2;have hcv:∃ad,cv= .slice ad 0 0:=by
   rcases hv with rfl|rfl
   ·cases r2' with
    |eP=>exact⟨_,rfl⟩|ay _ _ b o n cap val hle hn hcell hrel hc=>exact hc.elim
   ·cases r2' with
    |eP=>exact⟨_,rfl⟩|ay _ _ b o n cap val hle hn hcell hrel hc=>have hc':cap=0:=hc;subst hc';exact⟨_,rfl⟩
  obtain⟨ad,rfl⟩:=hcv;exact⟨_,r1,ad,rfl,hb⟩
 rcases hne with rfl|rfl<;>cases x<;>simp only[lZ] at hx<;>exact hleave
def WI:List V->Option V
 | [.ay _ []]=>some (.ay .full [])|_=>none
theorem aji {P:Program}{glob:Nat->Option (List V)}{f:FuncId}(h:WH P glob f)(hb:Bf E f)(hP:E.P=P)(hg:E.glob=glob)(hfl:∀g cs,E.glob g=some cs->cB cs=true){args:List V}{v:V}(hv:WI args=some v):
 Bf E f/\∀ro B0 (σ:ak) K w cO,bE E B0 σ K w->B0<=w.heap.size->(∀s,K.A s->s<σ.next)->RelA K σ.top w args cO->CallsIn (kE ro) 0 E.P f cO w (zJ E B0 σ K w v σ):=by
 refine⟨hb,fun ro B0 σ K w cO hs hB hA hr=>?_⟩;unfold WI at hv;split at hv
 ·rename_i c
  cases hv;have hl:zK E (fun b o=>∃v,w.cell? (at_ b o)=some v) (fun b=>r9 w b) w:=
   ⟨fun _ _ hi=>hi,fun _ hi=>hi,fun g cs hg=>(hs.glob g cs hg).pure (by simpa [aW] using hfl g cs hg) (fun b o hi=>⟨(hs.I b o hi).1,rfl⟩) (fun b hi=>⟨(hs.IM b hi).1,rfl⟩)⟩
  have hr':RelA (aU.lend (fun b o=>∃v,w.cell? (at_ b o)=some v) (fun b=>r9 w b)) (fun _=>0) w [.ay .sh []] cO:=by
   obtain⟨h1,h2⟩:=hr;refine⟨h1,fun i hi=>?_⟩;cases i with
   |zero=>have:=UG (h2 0 aD);exact this.pure rfl (fun b o hi=>⟨(hs.I b o hi).1,rfl⟩) (fun b hi=>⟨(hs.IM b hi).1,rfl⟩)
   |succ i=>simp at hi
  have hcall:CallsIn Fence.wide 0 E.P f cO w (fun e w'=>∃ad,e= .returned (.slice ad 0 0)/\Below w.heap.size w w'):=by rw[hP];exact h E hP hg _ _ w cO hl hr'
  have h2:CallsIn (kE ro) 0 E.P f cO w (fun e w'=>∃ad,e= .returned (.slice ad 0 0)/\Below w.heap.size w w'):=hcall;refine h2.mono ?_;rintro e w' ⟨ad,rfl,hb'⟩;have st:=Step.grow (new:=newer σ σ) hs hB hb';exact⟨_,.eP .full ad (fun h=>bL) trivial,st.ok,hA,st⟩
 ·cases hv
end
end aR
end
section
open Go Go.Proofs aR
namespace Sh
set_option maxRecDepth 100000
def abC (n:Nat):List Nat->Bool
 | []=>false|m::l=>Nat.beq n m||abC n l
def avX:List Nat:=[159,160,59,109,162,163,190,207,71,120,165,166,191,208,119,126,127]
def avY:List Nat:=[40,133,20,21,126,127,79,25]
def Ae (g d:Nat):Bool:=(Nat.beq g 126&& Nat.beq d 28)||(Nat.beq g 127&& Nat.beq d 35)
def BO (f:Nat):Option (List V->Option V):=bif Nat.beq f 126||Nat.beq f 127 then some WI else none
def vE (s:FuncId->Option (List V->Option V))(k:FuncId->Option (List V->Option V)):Env:={P:=Tryz.prog,glob:=Pt,imp:=fun f=>abC f avX,aj:=fun f=>abC f avY,rU:=s,own:=Ae,uP:=fun _=>false,Uu:=fun _=>false,cl:=k}
theorem avZ:Tryz.prog.funcs.all (fun fn=>!(fn.name== "runtime.NumGoroutine"))=true:=aA
theorem ajj:Tryz.prog.follows .mixedOrders=true:=aA
theorem ajk (f:FuncId)(fn:Func)(h:Tryz.prog.funcs[f]? =some fn):fn.name≠ "runtime.NumGoroutine" :=fun hn=>by
 have h3:=Array.all_eq_true_iff_forall_mem.1 avZ fn (Array.mem_of_getElem? h);rw[hn] at h3;exact absurd h3 aX
theorem es0:kQ (vE (fun _=>none) fun _=>none):=⟨ajk,fun f g h=>bL,ajj,fun g cs h=>bL,fun f g h=>bL⟩
abbrev uy (f:Nat):Fr:={d:=1,aj:=(vE (fun _=>none) fun _=>none).aj f,tm:=fun i=>([.ay .sh []]:List V).getD i aL}
theorem av0:WH Tryz.prog Pt 126:=by
 have hE:=es0;refine ajh (E:=vE (fun _=>none) fun _=>none) (fn:=Tryz.f126) (c:=Tryz.f126.body.getD .skip) Tryz.func126 aA (of_decide_eq_true aA) aA ?_;refine dW.seq (dW.cw hE ⟨0,.normal,_,_,rfl,?_⟩);refine dW.seq (dW.seq (dW.ajf (N:=0) (k:=1) (t:=4) hE rfl rfl rfl rfl rfl rfl avs rfl (fun b=>?_)));refine dW.aje (t:=b) rfl ?_;cases b with
 |true=>exact dW.cw hE ⟨0,.ret,_,_,rfl,.inr rfl,_,rfl,.inl rfl⟩|false=>refine dW.cw hE ⟨0,.normal,_,_,rfl,?_⟩;exact dW.cw hE ⟨0,.ret,_,_,rfl,.inr rfl,_,rfl,.inr rfl⟩
theorem av1:WH Tryz.prog Pt 127:=by
 have hE:=es0;refine ajh (E:=vE (fun _=>none) fun _=>none) (fn:=Tryz.f127) (c:=Tryz.f127.body.getD .skip) Tryz.func127 aA (of_decide_eq_true aA) aA ?_;refine dW.seq (dW.cw hE ⟨0,.normal,_,_,rfl,?_⟩);refine dW.seq (dW.seq (dW.ajf (N:=0) (k:=1) (t:=4) hE rfl rfl rfl rfl rfl rfl avt rfl (fun b=>?_)));refine dW.aje (t:=b) rfl ?_;cases b with
 |true=>exact dW.cw hE ⟨0,.ret,_,_,rfl,.inr rfl,_,rfl,.inl rfl⟩|false=>refine dW.cw hE ⟨0,.normal,_,_,rfl,?_⟩;exact dW.cw hE ⟨0,.ret,_,_,rfl,.inr rfl,_,rfl,.inr rfl⟩
theorem av2 (s:FuncId->Option (List V->Option V))(hs:∀f g,s f=some g->∀args v,g args=some v->oK (vE s BO) f args v):kQ (vE s BO) where
 name:=ajk
 rU:=hs
 mixed:=ajj
 flat:=fun g cs h=>bL
 cl:=fun f g h args v hv=>by
  have h':(bif Nat.beq f 126||Nat.beq f 127 then some WI else none)=some g:=h;cases h1:Nat.beq f 126
  ·cases h2:Nat.beq f 127
   ·rw[h1,h2] at h';cases h'
   ·rw[h1,h2] at h'
    cases h';have:=wo h2;subst this;exact aji (E:=vE s BO) av1 ⟨Tryz.f127,Tryz.f127.body.getD .skip,Tryz.func127,aA⟩ rfl rfl (fun g cs h=>bL) hv
  ·rw[h1] at h'
   cases h';have:=wo h1;subst this;exact aji (E:=vE s BO) av0 ⟨Tryz.f126,Tryz.f126.body.getD .skip,Tryz.func126,aA⟩ rfl rfl (fun g cs h=>bL) hv
end Sh
end
section
open Go Go.Proofs aR
namespace aR
mutual
def veq:V->V->Bool
 |.int k n,.int k' n'=>if k=k' then if n=n' then true else false else false|.agg l,.agg m=>Jo l m|.ay .sh l,.ay .sh m=>Jo l m|.fn (.func f) [] [],.fn (.func g) [] []=>if f=g then true else false|_,_=>false
def Jo:List V->List V->Bool
 | [],[]=>true|x::l,y::m=>match veq x y with
  |true=>Jo l m|false=>false
 |_,_=>false
end
mutual
theorem av3:∀(x y:V),veq x y=true->x=y:=by
 intro x y h;unfold veq at h;split at h
 ·split at h
  ·split at h
   ·simp_all
   ·cases h
  ·cases h
 ·rw[WJ _ _ h]
 ·rw[WJ _ _ h]
 ·split at h
  ·simp_all
  ·cases h
 ·cases h
theorem WJ:∀(l m:List V),Jo l m=true->l=m:=by
 intro l m h;unfold Jo at h;split at h
 ·rfl
 ·split at h
  ·rename_i h1
   rw[av3 _ _ h1,WJ _ _ h]
  ·cases h
 ·cases h
end
end aR
namespace Sh
set_option maxRecDepth 100000
abbrev Af:V:=.agg [.fn (.func 148) [] [],.fn (.func 150) [] []]
def abD:List V:=[Af,lv aG.v [⟨1,3,2⟩,⟨2,1,1⟩],.int .i64 2]
def WK:V:=lv aG.v [⟨2,1,1⟩,⟨1,3,2⟩]
def ajl (args:List V):Option V:=match Jo args abD with
 |true=>some WK|false=>none
def exS (f:Nat):Option (List V->Option V):=bif Nat.beq f 99 then some ajl else none
theorem av4:wD (vE exS BO) (dX (vE exS BO) 900) 13 []=some (.bool true):=aA
theorem av5 (h:oK (vE exS BO) 99 abD WK):oK (vE exS BO) 13 [] (.bool true):=by
 have hE:kQ (vE exS BO):=av2 exS fun f g hf args v hv=>by
  unfold exS at hf;cases h1:Nat.beq f 99
  ·rw[h1,cond_false] at hf;cases hf
  ·rw[h1,cond_true] at hf
   cases hf;have:=wo h1;subst this;unfold ajl at hv;split at hv
   ·rename_i he
    cases hv;rw[WJ _ _ he];exact h
   ·cases hv
 exact YZ hE (H6 hE 900).call av4
end Sh
end
section
open Go Go.Proofs aR
namespace Sh
set_option maxRecDepth 100000
def ajm (f:Nat):Bool:=Nat.beq f 159||Nat.beq f 160||Nat.beq f 126||Nat.beq f 59||Nat.beq f 109||Nat.beq f 162||Nat.beq f 163||Nat.beq f 190||Nat.beq f 207
def ajn (f:Nat):Bool:=Nat.beq f 40||Nat.beq f 133||Nat.beq f 21||Nat.beq f 20||Nat.beq f 99||Nat.beq f 126
def ajo (g d:Nat):Bool:=bif Nat.beq g 182 then bg d [5,7] else false
def E0:Env:={P:=Tryz.prog,glob:=Pt,imp:=ajm,aj:=ajn,rU:=fun _=>none,own:=ajo,uP:=fun _=>false,Uu:=fun _=>false}
open Classical in
def FP:Option Bool:=if oK E0 13 [] (.bool true) then some true else none
def av6:List V->Option V
 | []=>FP.map V.bool|_::_=>none
abbrev lI (a b:aG):Bool:=decide (a.Key<b.Key)||(decide (a.Key=b.Key)&& (decide (a.ID<b.ID)||(decide (a.ID=b.ID)&& decide (a.iL<b.iL))))
def lV (x:aG):List aG->List aG
 | []=>[x]|y::l=>bif decide (y.ID=x.ID) then (bif lI x y then x else y)::l else y::lV x l
def Ag (l:List aG):List aG:=l.foldl (fun m x=>lV x m) []
def BP (x:aG):List aG->List aG
 | []=>[x]|y::l=>bif lI x y then x::y::l else y::BP x l
def Jp (l:List aG):List aG:=l.foldl (fun m x=>BP x m) []
def sP (l:List aG)(k:Int):List aG:=(Jp (Ag l)).take k.toNat
open Classical in
def Ah (l:List aG)(k:Int):Option (List aG):=if oK E0 99 [Af,lv aG.v l,.int .i64 k] (lv aG.v (sP l k)) then some (sP l k) else none
theorem av7 {a b:aG}(h:aG.v a=aG.v b):a=b:=by
 cases a;cases b;simp only[aG.v,aG.c,V.agg.injEq,qO,V.int.injEq,true_and,and_true] at h;obtain⟨h1,h2,h3⟩:=h;subst h1;subst h2;subst h3;rfl
theorem av8 {a b:List aG}(h:lv aG.v a=lv aG.v b):a=b:=by
 injection h with _ h
 exact List.map_inj_right (fun _ _ e=>av7 e)|>.1 h
open Classical in
def WL (args:List V):Option V:=if h:∃l k,args=[Af,lv aG.v l,.int .i64 k] then (Ah h.choose h.choose_spec.choose).map (lv aG.v) else none
theorem av9 (l:List aG)(k:Int):WL [Af,lv aG.v l,.int .i64 k]=(Ah l k).map (lv aG.v):=by
 have h:∃l' k',[Af,lv aG.v l,V.int .i64 k]=[Af,lv aG.v l',.int .i64 k']:=⟨l,k,rfl⟩;unfold WL;rw[dif_pos h];have e:=h.choose_spec.choose_spec;injection e with _ e
 injection e with e1 e
 injection e with e2 _
 injection e2 with _ e2
 have e1:Ah h.choose h.choose_spec.choose=Ah l k:=congr (congrArg Ah (av8 e1).symm) e2.symm;rw[e1]
def abE (f:Nat):Option (List V->Option V):=bif Nat.beq f 13 then some av6 else bif Nat.beq f 99 then some WL else none
def E:Env:={P:=Tryz.prog,glob:=Pt,imp:=ajm,aj:=ajn,rU:=abE,own:=ajo,uP:=fun _=>false,Uu:=fun _=>false}
theorem awc {f:Nat}{args:List V}{v:V}(h:oK E f args v):oK E0 f args v:=h
theorem xu:kQ E where
 name:=fun f fn h hn=>by
  have h1:Tryz.prog.funcs.all (fun fn=>!(fn.name== "runtime.NumGoroutine"))=true:=aA
  have h2:Tryz.prog.funcs[f]? =some fn:=h;have h3:=Array.all_eq_true_iff_forall_mem.1 h1 fn (Array.mem_of_getElem? h2);rw[hn] at h3;exact absurd h3 aX
 rU:=fun f g hf args v hv=>by
  have hf':abE f=some g:=hf;unfold abE at hf';cases h1:Nat.beq f 13
  ·rw[h1,cond_false] at hf'
   cases h2:Nat.beq f 99
   ·rw[h2] at hf';cases hf'
   ·rw[h2] at hf';cases hf'
    have e:=wo h2;subst e;unfold WL at hv;split at hv
    ·rename_i h
     have e:=h.choose_spec.choose_spec;obtain⟨y,hy,rfl⟩:=bf.1 hv;unfold Ah at hy;split at hy
     ·rename_i hp
      cases hy;exact Eq.mpr (congrArg (fun z=>oK E0 99 z (lv aG.v (sP h.choose h.choose_spec.choose))) e) hp
     ·cases hy
    ·cases hv
  ·rw[h1] at hf';cases hf'
   have e:=wo h1;subst e;cases args with
   |nil=>
    obtain⟨y,hy,rfl⟩:=bf.1 hv;unfold FP at hy;split at hy
    ·rename_i hp;cases hy;exact hp
    ·cases hy
   |cons=>cases hv
 mixed:=aA
 flat:=fun g cs h=>bL
theorem Pw (d:Option Nat):zG E d=false:=GH
theorem awd (t:Nat)(d:Option Nat):AZ E t d=false:=GH
theorem abF (L:Option aR.Loc)(σ:ak)(b:Bool):jD L σ (.bool b)=(.bool b,σ):=by cases L<;>rfl
attribute [go_sem] Pw awd abF if_false
mutual
def pre:Pred->List Pred
 | ⟨op,name,n,m,s,subs⟩=>⟨op,name,n,m,s,subs⟩::oo subs
def oo:List Pred->List Pred
 | []=>[]|p::ps=>pre p++oo ps
end
theorem pre_eq (p:Pred):pre p=p::oo p.bS:=by cases p;simp[pre]
def yl (l:List Pred):List (List V):=l.map fun q=>[Pred.v q]
abbrev yv (l:Nat):V:=.fn (.yield l) [] []
def abG (d dd l:Nat)(σ:ak)(J:List (List V)->ak->Prop)(D:ak->Prop)(L:List (List V))(v:V)(σ':ak):Prop:=
 σ.next<=σ'.next/\(∀a o,d<a->a<dd->σ'.obj (a,o)=σ.obj (a,o))/\(∀s,s<σ.next->σ'.loops s=σ.loops s\/s=l)/\((v= .bool true/\J L σ')\/(v= .bool false/\D σ'))
theorem abG.trans {d dd l:Nat}{σ σ1:ak}{J:List (List V)->ak->Prop}{D:ak->Prop}{L:List (List V)}{v:V}{σ':ak}(hn:σ.next<=σ1.next)(ho:∀a o,d<a->a<dd->σ1.obj (a,o)=σ.obj (a,o))(hl:∀s,s<σ.next->σ1.loops s=σ.loops s\/s=l)(h:abG d dd l σ1 J D L v σ'):abG d dd l σ J D L v σ':=by
 obtain⟨h1,h2,h3,h4⟩:=h;refine⟨dJ hn h1,fun a o ha hb=>(h2 a o ha hb).trans (ho a o ha hb),fun s hs=>?_,h4⟩;rcases h3 s (gM hs hn) with e|e
 ·rcases hl s hs with e'|e'
  ·exact .inl (e.trans e')
  ·exact .inr e'
 ·exact .inr e
theorem WM {a o s b p:Nat}{σ:ak}{x:iN}(h:b≠a):(σ.setObj (a,o) s x).obj (b,p)=σ.obj (b,p):=by show upd σ.obj (a,o) _ (b,p)=_;unfold upd;rw[if_neg];intro e;exact h (congrArg Prod.fst e)
theorem awe {σ σ':ak}{loc:aR.Loc}{s:Nat}(h:σ'.obj loc=σ.obj loc):σ'.bQ loc s=σ.bQ loc s:=by unfold ak.bQ;rw[h]
end Sh
end
section
open Go Go.Proofs aR
namespace Sh
set_option maxRecDepth 100000
def lJ (d dd l:Nat)(σ σ':ak):Prop:=σ.next<=σ'.next/\(∀a o,d<a->a<dd->σ'.obj (a,o)=σ.obj (a,o))/\(∀s,s<σ.next->σ'.loops s=σ.loops s\/s=l)
theorem lJ.trans {d dd l:Nat}{σ σ1 σ2:ak}(h:lJ d dd l σ σ1)(g:lJ d dd l σ1 σ2):lJ d dd l σ σ2:=by
 refine⟨dJ h.1 g.1,fun a o ha hb=>(g.2.1 a o ha hb).trans (h.2.1 a o ha hb),fun s hs=>?_⟩;rcases g.2.2 s (gM hs h.1) with e|e
 ·rcases h.2.2 s hs with e'|e'
  ·exact .inl (e.trans e')
  ·exact .inr e'
 ·exact .inr e
theorem lJ.refl {d dd l:Nat}{σ:ak}:lJ d dd l σ σ:=⟨iP _,fun _ _ _ _=>rfl,fun _ _=>.inl rfl⟩
theorem lJ.bump {d dd l k:Nat}{σ:ak}:lJ d dd l σ (σ.bump k):=⟨gF _ _,fun _ _ _ _=>rfl,fun _ _=>.inl rfl⟩
theorem lJ.set {d dd l o s:Nat}{σ:ak}{x:iN}:lJ d dd l σ (σ.setObj (dd,o) s x):=⟨iP _,fun a o' _ hb=>WM ah,fun _ _=>.inl rfl⟩
theorem ajp:∀l:List Pred,l.length<=(oo l).length
 | []=>by simp[oo]|p::l=>by have:=ajp l;rw[oo,pre_eq];simp;omega
theorem ajq {q:Pred}:∀{l:List Pred},q∈l->(pre q).length<=(oo l).length
 |p::l,h=>by
  rw[oo,RS];rcases fV.1 h with rfl|h
  ·omega
  ·have:=ajq h;omega
theorem awf {d l:Nat}{J:List (List V)->ak->Prop}{D:ak->Prop}(hJ:∀xs σ σ',l<σ.next->J xs σ->Shift d σ σ'->J xs σ')(hD:∀σ σ',l<σ.next->D σ->Shift d σ σ'->D σ')(hr:∀x xs σ,l<σ.next->J (x::xs) σ->∃c σ',Ad E l x σ c σ'/\σ.next<=σ'.next/\(∀a o,d<a->σ'.obj (a,o)=σ.obj (a,o))/\(∀s,s<σ.next->σ'.loops s=σ.loops s\/s=l)/\(c=true->J xs σ')/\(c=false->D σ')):
 ∀(g:Nat)(p:Pred),sizeOf p<g->(pre p).length<2^62->∀(dd:Nat)(σ:ak)(L:List (List V)),d<dd->l<σ.next->J (yl (pre p)++L) σ->mX E 160 [Pred.v p,yv l] dd σ (fun v σ'=>lJ d dd l σ σ'/\((v= .bool true/\J L σ')\/(v= .bool false/\D σ'))):=by
 intro g;induction g with
 |zero=>intro p hp;omega|succ g ih=>
 intro p hp hsz dd iy L hd hl hj;have aK:∀{σ:ak}{x:iN}{k o s:Nat},lJ d dd l σ ((σ.bump k).setObj (dd,o) s x):=lJ.trans .bump .set;have part:∀(fr:Fr)(σ:ak)(s:Nat)(q:Pred)(xs:List (List V))(Q:Ex->Fr->ak->Prop),sizeOf q<g->(pre q).length<2^62->fr.d=dd->fr.tm 1=yv l->fr.tm 6= .ref (dd,6) s 0->σ.bQ (dd,6) s=some q.c->l<σ.next->lJ d dd l iy σ->J (yl (pre q)++xs) σ->
  (∀fr' σ',(∀i,i<18->6<i->fr'.tm i=fr.tm i)->fr'.d=dd->fr'.tm 1=yv l->l<σ'.next->lJ d dd l iy σ'->J xs σ'->Q .normal fr' σ')->(∀fr' σ',fr'.tm 4= .bool false->D σ'->lJ d dd l iy σ'->Q .ret fr' σ')->
  bH E ((oQ Tryz.f160.body [1,1,0,1,0,0,1,1,0,0,1]).getD .skip) fr σ Q:=by
  intro fr σ s q xs Q hq Px h1 h2 h3 h4 hl hp hj abH abI;have hP:E.P=Tryz.prog:=rfl;refine bH.seq (bH.region ?_);refine bW.a1 ?_;refine bW.a1 ?_;refine bW.H7 (g:=160) (a:=[]) (b:=[]) uI rfl rfl rfl rfl ?_;rw[Bh,Bh,h1];change mX E 160 [Pred.v q,yv l] (dd+1) _ _;obtain⟨n,v,σ1,hn,hpg,hv⟩:=ih q hq Px (dd+1) (σ.bump 4) xs ah (gM hl (gF _ _)) (hJ _ _ _ hl hj ⟨gF _ _,fun _ _=>rfl,fun _ _=>rfl,fun _ _ _=>rfl⟩);have ajr:lJ d dd l iy σ1:=hp.trans (lJ.trans .bump ⟨hpg.1,fun a o ha hb=>hpg.2.1 a o ha ah,hpg.2.2⟩);have hl':l<σ1.next:=gM hl (dJ (gF _ 4) hpg.1);refine⟨n,v,σ1,hn,?_⟩;rcases hv with ⟨rfl,hj'⟩| ⟨rfl,hd'⟩
  ·refine bW.a1 ?_
   refine bW.nil (kR.n ?_);refine bH.Zp Gw ?_;refine bH.skip (abH _ _ (fun i h1 h2=>?_) ?_ ?_ hl' ajr hj')
   ·simp only[Oc]
    rw[fZ _ _ eY,fZ _ _ eY,fZ _ _ eY,fZ _ _ eY]
   ·simp only[Oc,Bh,h1]
   ·simp only[go_sem,Nat.reduceBEq,h2]
  ·refine bW.a1 ?_
   refine bW.nil (kR.n ?_);refine bH.Zo Gw ?_;refine bH.seq (bH.region ?_);refine bW.a1 ?_;refine bW.nil (kR.n (bH.ret (abI _ _ ?_ ?_ (ajr.trans .bump))))
   ·simp only[go_sem,Nat.reduceBEq]
   ·exact hD _ _ hl' hd' ⟨gF _ _,fun _ _=>rfl,fun _ _=>rfl,fun _ _ _=>rfl⟩
 have loop:∀(k i:Nat)(fr:Fr)(σ:ak),i+k=p.bS.length->fr.d=dd->fr.tm 1=yv l->fr.tm 12=lv Pred.v p.bS->fr.tm 13= .int .i64 (p.bS.length:Nat)->fr.tm 14= .int .i64 (i:Nat)->p.bS.length<2^62->l<σ.next->lJ d dd l iy σ->J (yl (oo (p.bS.drop i))++L) σ->
  bH E ((oQ Tryz.f160.body [1,1,0,1,0]).getD .skip) fr σ (fun e fr' σ'=>(e= .exit 0/\J L σ'/\lJ d dd l iy σ')\/(e= .ret/\fr'.tm 4= .bool false/\D σ'/\lJ d dd l iy σ')):=by
  intro k;induction k with
  |zero=>
   intro i fr σ hi h1 h2 h3 h4 h5 hb hl hp hj;refine bH.loop (bH.seq (bH.region ?_));refine bW.a1 ?_;refine bW.nil (kR.n ?_);have e:decide (((i:Nat):Int)< ((p.bS.length:Nat):Int))=false:=eY
   refine bH.seq (bH.Zp Gw ?_);refine bH.exit (kR.x (zN.x (.inl ⟨rfl,?_,hp.trans .bump⟩)));have:p.bS.drop i=[]:=GN ah;rw[this] at hj;exact hJ _ _ _ hl (by simpa [yl,oo] using hj) ⟨gF _ _,fun _ _=>rfl,fun _ _=>rfl,fun _ _ _=>rfl⟩
  |succ k ihk=>
   intro i fr σ hi h1 h2 h3 h4 h5 hb hl hp hj;have hlt:i<p.bS.length:=ah
   have hx:aN p.bS ((i:Nat):Int)=some p.bS[i]:=by unfold aN;rw[if_pos ⟨ah,ah⟩];simp[hlt]
   have hdrop:p.bS.drop i=p.bS[i]::p.bS.drop (i+1):=uJ hlt;have hmem:p.bS[i]∈p.bS:=jQ hlt;generalize p.bS[i]=q at hx hdrop hmem;refine bH.loop (bH.seq (bH.region ?_));refine bW.a1 ?_;refine bW.nil (kR.n ?_);have e:decide (((i:Nat):Int)< ((p.bS.length:Nat):Int))=true:=eY
   refine bH.seq (bH.Zo Gw ?_);refine bH.skip (kR.n ?_);refine bH.seq (bH.block (bH.seq (bH.region ?_)));have hP:E.P=Tryz.prog:=rfl;have aEO:qU Tryz.prog 27 (lv Pred.v p.bS) (.int .i64 ((i:Nat):Int))=some (.aY q.c 0):=by rw[afR,if_pos uI];have e1:nW Tryz.prog 27=some 29:=aA;have e2:fq Tryz.prog 29=some 6:=aA;rw[e1];simp only[Option.bind_some,e2,hx];rfl
   refine bW.a1 ?_;refine bW.a1 ?_;have hz:kC Tryz.prog 29=some (.agg [.int .i64 0,.str [],.int .i64 0,.int .i64 0,.str [],.ay .nil []]):=aA
   refine bW.a1 ?_;have aEP:fq Tryz.prog 29=some 6:=aA
   have hsp:iT [.int .i64 0,.str [],.int .i64 0,.int .i64 0,.str [],.ay .nil []] 0 q.c=q.c:=rfl;refine bW.o0 uI (by intro S;rw[Zz];simp only[go_sem,Nat.reduceBEq,Nat.reduceAdd, *];rw[if_pos aX];exact Is.rfl) ?_;refine bW.nil (Vd.i (kR.n ?_));rw[hdrop] at hj;have hj1:J (yl (pre q)++(yl (oo (p.bS.drop (i+1)))++L)) σ:=by have:yl (oo (q::p.bS.drop (i+1)))=yl (pre q)++yl (oo (p.bS.drop (i+1))):=(by simp[yl,oo]);rw[this,jR] at hj;exact hj
   refine part _ _ ?s q _ _ ?hq ?Px ?h1 ?h2 ?h3 ?h4 ?hl ?hp (hJ _ _ _ hl hj1 ?hsh) ?abH ?abI;case h3=>simp only[go_sem,Nat.reduceBEq,Nat.reduceAdd, *];rfl
   case hq=>
    have h7:=List.sizeOf_lt_of_mem hmem;have h8:sizeOf p.bS<sizeOf p:=(by cases p;simp;omega);omega
   case Px=>have h:=ajq hmem;rw[pre_eq] at hsz;simp at hsz;omega
   case h1=>simp only[Bh,h1]
   case h2=>simp only[go_sem,Nat.reduceBEq,Nat.reduceAdd, *]
   case h4=>exact zP _ _ _ _
   case hl=>exact gM hl (dJ (gF _ _) (gF _ _))
   case hp=>exact hp.trans (lJ.trans .bump (lJ.trans .bump (lJ.trans .set .set)))
   case hsh=>exact⟨dJ (gF _ _) (gF _ _),fun _ _=>rfl,fun _ _=>rfl,fun a o ha=>(WM ah).trans (WM ah)⟩
   case abH=>
    intro fr' σ' k1 k2 k3 k4 k5 k6;refine tT.n (kR.n (bH.region ?_));have t12:fr'.tm 12=lv Pred.v p.bS:=(by rw[k1 12 ah ah];simp only[go_sem,Nat.reduceBEq,Nat.reduceAdd, *]);have aEQ:fr'.tm 13= .int .i64 (p.bS.length:Nat):=(by rw[k1 13 ah ah];simp only[go_sem,Nat.reduceBEq,Nat.reduceAdd, *]);have aER:fr'.tm 14= .int .i64 (i:Nat):=(by rw[k1 14 ah ah];simp only[go_sem,Nat.reduceBEq,Nat.reduceAdd, *]);have hw:IntKind.wrap .i64 ((i:Int)+(1:Int))=((i+1:Nat):Int):=zk;refine bW.a1 ?_;refine bW.a1 ?_;refine bW.nil (Vd.i (zN.n (ihk (i+1) _ _ ah ?_ ?_ ?_ ?_ ?_ hb ?_ (k5.trans .bump) ?_)))
    ·simp only[Bh,k2]
    ·simp only[go_sem,Nat.reduceBEq,Nat.reduceAdd, *]
    ·simp only[go_sem,Nat.reduceBEq,Nat.reduceAdd, *]
    ·simp only[go_sem,Nat.reduceBEq,Nat.reduceAdd, *]
    ·simp only[go_sem,Nat.reduceBEq,Nat.reduceAdd, *]
    ·exact gM k4 (gF _ _)
    ·exact hJ _ _ _ k4 k6 ⟨gF _ _,fun _ _=>rfl,fun _ _=>rfl,fun _ _ _=>rfl⟩
   case abI=>
    intro fr' σ' k1 k2 k3;exact tT.r (kR.r (zN.r (.inr ⟨rfl,k1,k2,k3⟩)))
 refine mX.of (fn:=Tryz.f160) (c:=Tryz.f160.body.getD .skip) Tryz.func160 rfl aA ?_;generalize hfr:({d:=dd,aj:=E.aj 160,tm:=fun i=>[Pred.v p,yv l].getD i aL}:Fr)=fr;have h0:fr.tm 0=Pred.v p:=Ep
 have h1:fr.tm 1=yv l:=Ep
 have hdd:fr.d=dd:=by rw[<-hfr]
 have hP:E.P=Tryz.prog:=rfl;clear hfr;refine bH.seq (bH.region ?_);refine bW.a1 ?_;refine bW.a1 ?_;refine bW.nil (kR.n ?_);refine bH.seq (bH.seq (bH.region ?_));refine bW.a1 ?_;refine bW.a1 ?_;rw[pre_eq] at hj;have hj':J ([Pred.v p]::(yl (oo p.bS)++L)) (((iy.bump 2).setObj (dd,2) iy.next (.cells p.c)).bump 4):=hJ _ _ _ hl (by simpa [yl] using hj) ⟨dJ (gF _ 2) (gF _ 4),fun _ _=>rfl,fun _ _=>rfl,fun a o ha=>WM ah⟩;have hl1:l< (((iy.bump 2).setObj (dd,2) iy.next (.cells p.c)).bump 4).next:=by show l<iy.next+2+4;omega
 obtain⟨c,σ1,hrnd,hn1,ho1,hlo1,hc1,hc2⟩:=hr _ _ _ hl1 hj';have hcell:σ1.bQ (dd,2) iy.next=some p.c:=by rw[awe (ho1 dd 2 hd)];exact zP _ _ _ _
 have abJ:lJ d dd l iy σ1:=(lJ.trans aK .bump).trans ⟨hn1,fun a o ha _=>ho1 a o ha,hlo1⟩;have hl2:l<σ1.next:=gM hl abJ.1;refine bW.yield (l:=l) (b:=c) uI rfl rfl ?_ hrnd ?_
 ·simp only[go_sem,Nat.reduceBEq,Nat.reduceAdd, *]
 refine bW.a1 ?_;refine bW.nil (kR.n ?_);cases c with
 |false=>refine bH.Zo Gw ?_;refine bH.seq (bH.region ?_);refine bW.a1 ?_;refine bW.nil (kR.n (bH.ret (kR.r ?_)));refine zO.one aD (by simp only[go_sem,Nat.reduceBEq,Nat.reduceAdd,lu];with_reducible exact Is.rfl) ⟨abJ.trans .bump,.inr ⟨rfl,?_⟩⟩;exact hD _ _ hl2 (hc2 rfl) ⟨gF _ _,fun _ _=>rfl,fun _ _=>rfl,fun _ _ _=>rfl⟩
 |true=>
  have hlen:p.bS.length<2^62\/2^62<=p.bS.length:=ah
  refine bH.Zp Gw ?_;refine bH.skip (kR.n ?_);refine bH.seq (bH.seq (bH.region ?_));refine bW.a1 ?_;refine bW.a1 ?_;refine bW.a1 ?_;refine bW.a1 ?_;refine bW.nil (kR.n (bH.block ?_));refine(loop p.bS.length 0 _ _ ah ?_ ?_ ?_ ?_ ?_ ?_ ?_ (abJ.trans .bump) ?_).mono ?_
  ·simp only[Bh,Oc,hdd]
  ·simp only[go_sem,Nat.reduceBEq,Nat.reduceAdd, *]
  ·simp only[go_sem,Nat.reduceBEq,Nat.reduceAdd, *]
  ·simp only[go_sem,Nat.reduceBEq,Nat.reduceAdd, *]
  ·simp only[go_sem,Nat.reduceBEq,Nat.reduceAdd, *];rfl
  ·have h:=ajp p.bS;rw[pre_eq] at hsz;simp at hsz;omega
  ·exact gM hl2 (gF _ _)
  ·exact hJ _ _ _ hl2 (by simpa using hc1 rfl) ⟨gF _ _,fun _ _=>rfl,fun _ _=>rfl,fun _ _ _=>rfl⟩
  ·rintro e fr' σ' (⟨rfl,k1,k2⟩| ⟨rfl,k1,k2,k3⟩)
   ·refine tT.hit (kR.n (bH.seq (bH.region ?_)))
    refine bW.a1 ?_;refine bW.nil (kR.n (bH.ret ?_));refine zO.one aD (by simp only[go_sem,Nat.reduceBEq,Nat.reduceAdd,lu];with_reducible exact Is.rfl) ⟨k2.trans .bump,.inl ⟨rfl,?_⟩⟩;exact hJ _ _ _ (gM hl k2.1) k1 ⟨gF _ _,fun _ _=>rfl,fun _ _=>rfl,fun _ _ _=>rfl⟩
   ·refine tT.r (kR.r (zO.one aD (by simp only[lu];rw[k1];exact Is.rfl) ⟨k3,.inr ⟨rfl,k2⟩⟩))
theorem awg (p:Pred)(hsz:(pre p).length<2^62):FD E 159 [] [.aY p.c 0] (yl (pre p)):=by
 intro d l σ J D hJ hD hr hl hj;refine mX.of (fn:=Tryz.f159) (c:=Tryz.f159.body.getD .skip) Tryz.func159 rfl aA ?_;generalize hfr:({d:=d+1,aj:=E.aj 159,tm:=fun i=>([]++[.fn (.yield l) [] []]++[.aY p.c 0]:List V).getD i aL}:Fr)=fr;have h0:fr.tm 0=yv l:=Ep
 have h1:fr.tm 1= .aY p.c 0:=Ep
 have hdd:fr.d=d+1:=by rw[<-hfr]
 have hP:E.P=Tryz.prog:=rfl;clear hfr;refine bH.region ?_;refine bW.a1 ?_;refine bW.a1 ?_;refine bW.H7 (g:=160) (a:=[]) (b:=[]) uI rfl rfl rfl rfl ?_;rw[Bh,Bh,hdd];change mX E 160 [Pred.v p,yv l] (d+1+1) _ _;obtain⟨n,v,σ1,hn,hpg,hv⟩:=awf hJ hD hr (sizeOf p+1) p ah hsz (d+1+1) (σ.bump 3) [] ah (gM hl (gF _ _)) (hJ _ _ _ hl ql ⟨gF _ _,fun _ _=>rfl,fun _ _=>rfl,fun _ _ _=>rfl⟩);refine⟨n,v,σ1,hn,bW.nil ?_⟩;rcases hv with ⟨rfl,h⟩| ⟨rfl,h⟩
 ·rw[abF]
  exact⟨[],rfl,dJ (gF _ 3) hpg.1,.inl h⟩
 ·rw[abF]
  exact⟨[],rfl,dJ (gF _ 3) hpg.1,.inr h⟩
def DK (p:Pred):Option (List Pred):=if (pre p).length<2^62 then some (pre p) else none
abbrev abK:List aC:=[.d (.int .i64),.d .str,.d (.int .i64),.d (.int .i64),.d .str,.d (.slice (.st 2))]
abbrev Jq:List aC:=[.d (.st 2)]
def uE:IR R:=GY 159 ⟨[],[.aY abK 0],Jq,fun _ q=>DK (⟨q.1,q.2.1,q.2.2.1,q.2.2.2.1,q.2.2.2.2.1,q.2.2.2.2.2⟩:Pred)⟩ aiw
theorem Jr:mK E uE:=by
 refine avb ava ⟨rfl,fun pa pb xs h=>?_⟩;unfold DK at h;dsimp only at h;split at h
 ·rename_i hsz
  cases h;have:=awg _ hsz;have e:∀q:av R.T abK,aF R [.aY abK 0] q=[.aY (Pred.c ⟨q.1,q.2.1,q.2.2.1,q.2.2.2.1,q.2.2.2.2.1,q.2.2.2.2.2⟩) 0]:=fun q=>by unfold Pred.c;rw[Pred.Jl];rfl
  have e2:∀l:List Pred,List.map (aF R Jq) l=yl l:=fun l=>rfl;exact Eq.mpr (congrArg (fun b=>FD E 159 [] b (yl (pre ⟨pb.1,pb.2.1,pb.2.2.1,pb.2.2.2.1,pb.2.2.2.2.1,pb.2.2.2.2.2⟩))) (e pb)) this
 ·cases h
end Sh
end
section
open Go Go.Proofs aR
namespace Sh
def abL (_:Nat):Nat->List (fC R):=aiv
theorem ajs (n:Nat):aZ E (abL n):=avc
theorem awh (p:av R.T [])(x:Bool)(h:FP=some x):Pure E 13 (aF R [] p) (bq [.bool x]):=⟨0,by
 show (FP.map V.bool)=some (.bool x);rw[h];rfl⟩
theorem awi (p:av R.T [.agg [.fn 148 [] [],.fn 150 [] []],.d (.slice (.st 10)),.d (.int .i64)])(x:List aG)(h:Ah p.2.1 p.2.2=some x):Pure E 99 (aF R [.agg [.fn 148 [] [],.fn 150 [] []],.d (.slice (.st 10)),.d (.int .i64)] p) (bq (aF R [.d (.slice (.st 10))] x)):=⟨0,(av9 (show List aG from p.2.1) (show Int from p.2.2)).trans (congrArg (Option.map (lv aG.v)) h)⟩
end Sh
end
section
namespace Go.Proofs.YthadiihdjhakdaaGreat.WO
open Go Go.ChangeShapes Go.WideShapes Go.ChangeAt Go.RowKit aR Sh
set_option maxRecDepth 100000
theorem own:ownKnob Tryz.prog.godebug=none:=aA
theorem u4:Tryz.prog.underlying 4=some .bool:=aA
theorem awj {W:World}:∀g cs,Sh.E.glob g=some cs->Rel (rC W) (fun _=>0) W (.aY cs 0) (.pointer (some (at_ g 0))):=fun g cs hg=>by cases hg
theorem awk:(rty.all fun x=>om R Tryz.prog x.1 x.2)=true:=aA
theorem ajt {α:Type}:∀{l:List (Nat×α)}{i:Nat}{x:α},_root_.aR.look l i=some x->(i,x)∈l
 | [],_,_,h=>bL| (j,y)::l,i,x,h=>by
   unfold _root_.aR.look at h;cases hb:Nat.beq j i
   ·rw[hb] at h;exact iZ _ (ajt h)
   ·rw[hb] at h
    cases h;have:=wo hb;subst this;simp
theorem hty:∀t τ,R.ty t=some τ->om R Tryz.prog t τ=true:=fun t τ h=>kG.1 awk (t,τ) (ajt h)
theorem laidOut:laidOutB Tryz.prog=true:=aA
theorem awl:mapsRowed Tryz.prog=true:=aA
theorem kids:Kids Tryz.prog (· <Tryz.prog.types.size):=kids_rows laidOut awl
theorem full:((List.range Tryz.prog.types.size).all fun t=>match Tryz.prog.underlying t with|some (.slice e)=>decide (0<Tryz.prog.cellsOf e)|_=>true)=true:=aA
theorem awm (H:Type):Bulk H Rows.uptoBulk Rows.uptoBulkAll where
 one d:=by
  cases d with
  |lit l=>cases l<;>simp[Rows.uptoBulk]|_=>simp[Rows.uptoBulk]
 str s:=by simp[Rows.uptoBulk]
 agg l:=by simp[Rows.uptoBulk]
 sl l r:=by simp only[Rows.uptoBulk];omega
 nil:=rfl
 cons d l:=by simp only[Rows.uptoBulkAll]
end Go.Proofs.YthadiihdjhakdaaGreat.WO
end
