/- Part of the proof of a law. -/
import Derived.Test.YtdcnajadcbedkaaGreatDoorS615
import Derived.Test.YtdcnajadcbedkaaGreatDoorS621
set_option linter.all false
set_option linter.unusedSimpArgs false
set_option linter.unusedSectionVars false
open Go Go.Proofs Aq
namespace Aq
mutual
def veq:V→V→Bool
 |.int k n,.int k' n'=>if k=k' then if n=n' then true else false else false
 |.str s,.str t=>if s=t then true else false
 |.agg l,.agg m=>BJ l m
 |.aj .sh l,.aj .sh m=>BJ l m
 |_,_=>false
def BJ:List V→List V→Bool
 | [],[]=>true
 |x::l,y::m=>match veq x y with
  |true=>BJ l m
  |false=>false
 |_,_=>false
end
mutual
theorem ala:∀(x y:V),veq x y=true→x=y:=by
 intro x y h
 unfold veq at h
 split at h
 ·split at h
  ·split at h
   ·simp_all
   ·cases h
  ·cases h
 ·split at h
  ·simp_all
  ·cases h
 ·rw[Lr _ _ h]
 ·rw[Lr _ _ h]
 ·cases h
theorem Lr:∀(l m:List V),BJ l m=true→l=m:=by
 intro l m h
 unfold BJ at h
 split at h
 ·rfl
 ·split at h
  ·rename_i h1
   rw[ala _ _ h1,Lr _ _ h]
  ·cases h
 ·cases h
end
theorem aan {E:Env} {f:FuncId}:∀(tab:List (List V×V)),(∀p∈tab,Pure E f p.1 p.2)→∃M,∀p∈tab,iW E (dz E M) f p.1=some p.2
 | [],_=>⟨0,fun p hp=>by cases hp⟩
 |q::tab,h=>by
  obtain⟨M,hM⟩:=aan tab fun p hp=>h p (List.mem_cons_of_mem _ hp)
  obtain⟨n,hn⟩:=h q (List.mem_cons_self ..)
  refine⟨max M n,fun p hp=> ?_⟩
  rcases List.mem_cons.1 hp with rfl|hp
  ·exact zl (jQ (Nat.le_max_right _ _)) hn
  ·exact zl (jQ (Nat.le_max_left _ _)) (hM p hp)
end Aq
namespace Sh
set_option maxRecDepth 100000
abbrev jI (t:Int) (ls:List (List UInt8)):List V:=[.int .i64 t,.aj .sh (ls.map V.str)]
theorem dV {t:Int} {ls:List (List UInt8)} {d:aI} (h:lC t ls=d) (hb:(ls.all fun x=>decide (x.length<2^28))=true) (hs:decide (1+jd gP ls<1000∧ls.length<1000)=true):Pure E 71 (jI t ls) d.v:=by
 have h2:=of_decide_eq_true hs
 have:=Zm 1000 (t,ls) (lC t ls) (Sd (fun x hx=>by have:=List.all_eq_true.1 hb x hx;exact of_decide_eq_true this) (by omega) (by omega) (by omega) (by omega) (by omega))
 rw[←h];exact this
theorem pu0:Pure E 71 (jI 361 [[12,4,0,0,0,0,0],[0,0,0,0,0,0,0,0,0,0,0,0,0,0,0,0],[0,0,0,0,0,0,0,0,0,0,0,0,0,0,0,0],[0,0,0,0,0,0,0,0,0,0,0,0,0,0,0,0],[0,0,0,0,0,0,0,0,0,0,0,0,0,0,0,0]]) (aI.v ⟨14,85,223,209,244,180,159,218,184,27,131,223,242,197,14,166⟩):=dV dg0 (by kernel_rfl) (by kernel_rfl)
theorem pu1:Pure E 71 (jI 362 [[107],[14,85,223,209,244,180,159,218,184,27,131,223,242,197,14,166],[107]]) (aI.v ⟨180,103,201,137,157,143,86,165,3,243,243,196,201,220,197,208⟩):=dV dg1 (by kernel_rfl) (by kernel_rfl)
theorem pu2:Pure E 71 (jI 361 [[12,4,2,10,0,0,0],[14,85,223,209,244,180,159,218,184,27,131,223,242,197,14,166],[0,0,0,0,0,0,0,0,0,0,0,0,0,0,0,0],[0,0,0,0,0,0,0,0,0,0,0,0,0,0,0,0],[0,0,0,0,0,0,0,0,0,0,0,0,0,0,0,0]]) (aI.v ⟨75,41,175,83,30,37,37,55,106,27,8,206,103,162,56,69⟩):=dV dg2 (by kernel_rfl) (by kernel_rfl)
theorem pu3:Pure E 71 (jI 362 [[107],[75,41,175,83,30,37,37,55,106,27,8,206,103,162,56,69],[107]]) (aI.v ⟨49,227,71,161,179,172,106,225,170,67,164,243,81,209,222,144⟩):=dV dg3 (by kernel_rfl) (by kernel_rfl)
theorem pu4:Pure E 71 (jI 361 [[12,4,2,12,0,0,0],[14,85,223,209,244,180,159,218,184,27,131,223,242,197,14,166],[0,0,0,0,0,0,0,0,0,0,0,0,0,0,0,0],[0,0,0,0,0,0,0,0,0,0,0,0,0,0,0,0],[0,0,0,0,0,0,0,0,0,0,0,0,0,0,0,0]]) (aI.v ⟨255,67,2,236,157,220,170,155,106,241,70,17,21,159,207,83⟩):=dV dg4 (by kernel_rfl) (by kernel_rfl)
theorem pu5:Pure E 71 (jI 362 [[107],[255,67,2,236,157,220,170,155,106,241,70,17,21,159,207,83],[107]]) (aI.v ⟨217,87,125,83,94,47,103,88,40,101,57,10,103,20,150,205⟩):=dV dg5 (by kernel_rfl) (by kernel_rfl)
theorem pu6:Pure E 71 (jI 361 [[12,4,2,12,0,0,0],[1,0,0,0,0,0,0,0,0,0,0,0,0,0,0,0],[0,0,0,0,0,0,0,0,0,0,0,0,0,0,0,0],[0,0,0,0,0,0,0,0,0,0,0,0,0,0,0,0],[0,0,0,0,0,0,0,0,0,0,0,0,0,0,0,0]]) (aI.v ⟨53,106,160,200,229,43,68,238,105,226,89,3,56,226,229,51⟩):=dV dg6 (by kernel_rfl) (by kernel_rfl)
theorem pu7:Pure E 71 (jI 362 [[107],[53,106,160,200,229,43,68,238,105,226,89,3,56,226,229,51],[107]]) (aI.v ⟨36,134,208,158,190,202,169,115,193,123,71,27,39,98,57,44⟩):=dV dg7 (by kernel_rfl) (by kernel_rfl)
theorem pu8:Pure E 71 (jI 361 [[12,4,2,10,0,0,0],[1,0,0,0,0,0,0,0,0,0,0,0,0,0,0,0],[0,0,0,0,0,0,0,0,0,0,0,0,0,0,0,0],[0,0,0,0,0,0,0,0,0,0,0,0,0,0,0,0],[0,0,0,0,0,0,0,0,0,0,0,0,0,0,0,0]]) (aI.v ⟨111,137,43,161,16,179,108,93,41,241,250,29,19,37,192,117⟩):=dV dg8 (by kernel_rfl) (by kernel_rfl)
theorem pu9:Pure E 71 (jI 362 [[107],[111,137,43,161,16,179,108,93,41,241,250,29,19,37,192,117],[107]]) (aI.v ⟨243,9,145,136,53,42,223,188,175,87,73,69,74,212,61,12⟩):=dV dg9 (by kernel_rfl) (by kernel_rfl)
theorem ali:Pure E 71 (jI 121 [[0,0,0,0,0,0,0,0,0,0,0,0,0,0,0,0],[214,5],[20,2,2,2,10,16,130,128,128,1,2,2,2,0,0]]) (aI.v ⟨131,156,47,251,253,15,30,88,31,104,38,183,228,3,4,53⟩):=dV ak9 (by kernel_rfl) (by kernel_rfl)
def Fz:List (List V×V):=[(jI 361 [[12,4,0,0,0,0,0],[0,0,0,0,0,0,0,0,0,0,0,0,0,0,0,0],[0,0,0,0,0,0,0,0,0,0,0,0,0,0,0,0],[0,0,0,0,0,0,0,0,0,0,0,0,0,0,0,0],[0,0,0,0,0,0,0,0,0,0,0,0,0,0,0,0]],aI.v ⟨14,85,223,209,244,180,159,218,184,27,131,223,242,197,14,166⟩),
 (jI 362 [[107],[14,85,223,209,244,180,159,218,184,27,131,223,242,197,14,166],[107]],aI.v ⟨180,103,201,137,157,143,86,165,3,243,243,196,201,220,197,208⟩),
 (jI 361 [[12,4,2,10,0,0,0],[14,85,223,209,244,180,159,218,184,27,131,223,242,197,14,166],[0,0,0,0,0,0,0,0,0,0,0,0,0,0,0,0],[0,0,0,0,0,0,0,0,0,0,0,0,0,0,0,0],[0,0,0,0,0,0,0,0,0,0,0,0,0,0,0,0]],aI.v ⟨75,41,175,83,30,37,37,55,106,27,8,206,103,162,56,69⟩),
 (jI 362 [[107],[75,41,175,83,30,37,37,55,106,27,8,206,103,162,56,69],[107]],aI.v ⟨49,227,71,161,179,172,106,225,170,67,164,243,81,209,222,144⟩),
 (jI 361 [[12,4,2,12,0,0,0],[14,85,223,209,244,180,159,218,184,27,131,223,242,197,14,166],[0,0,0,0,0,0,0,0,0,0,0,0,0,0,0,0],[0,0,0,0,0,0,0,0,0,0,0,0,0,0,0,0],[0,0,0,0,0,0,0,0,0,0,0,0,0,0,0,0]],aI.v ⟨255,67,2,236,157,220,170,155,106,241,70,17,21,159,207,83⟩),
 (jI 362 [[107],[255,67,2,236,157,220,170,155,106,241,70,17,21,159,207,83],[107]],aI.v ⟨217,87,125,83,94,47,103,88,40,101,57,10,103,20,150,205⟩),
 (jI 361 [[12,4,2,12,0,0,0],[1,0,0,0,0,0,0,0,0,0,0,0,0,0,0,0],[0,0,0,0,0,0,0,0,0,0,0,0,0,0,0,0],[0,0,0,0,0,0,0,0,0,0,0,0,0,0,0,0],[0,0,0,0,0,0,0,0,0,0,0,0,0,0,0,0]],aI.v ⟨53,106,160,200,229,43,68,238,105,226,89,3,56,226,229,51⟩),
 (jI 362 [[107],[53,106,160,200,229,43,68,238,105,226,89,3,56,226,229,51],[107]],aI.v ⟨36,134,208,158,190,202,169,115,193,123,71,27,39,98,57,44⟩),
 (jI 361 [[12,4,2,10,0,0,0],[1,0,0,0,0,0,0,0,0,0,0,0,0,0,0,0],[0,0,0,0,0,0,0,0,0,0,0,0,0,0,0,0],[0,0,0,0,0,0,0,0,0,0,0,0,0,0,0,0],[0,0,0,0,0,0,0,0,0,0,0,0,0,0,0,0]],aI.v ⟨111,137,43,161,16,179,108,93,41,241,250,29,19,37,192,117⟩),
 (jI 362 [[107],[111,137,43,161,16,179,108,93,41,241,250,29,19,37,192,117],[107]],aI.v ⟨243,9,145,136,53,42,223,188,175,87,73,69,74,212,61,12⟩),
 (jI 121 [[0,0,0,0,0,0,0,0,0,0,0,0,0,0,0,0],[214,5],[20,2,2,2,10,16,130,128,128,1,2,2,2,0,0]],aI.v ⟨131,156,47,251,253,15,30,88,31,104,38,183,228,3,4,53⟩)]
theorem alj:∀p∈Fz,Pure E 71 p.1 p.2:=by
 intro p hp
 simp only[Fz,List.mem_cons,List.not_mem_nil,or_false] at hp
 rcases hp with rfl|rfl|rfl|rfl|rfl|rfl|rfl|rfl|rfl|rfl|rfl
 ·exact pu0
 ·exact pu1
 ·exact pu2
 ·exact pu3
 ·exact pu4
 ·exact pu5
 ·exact pu6
 ·exact pu7
 ·exact pu8
 ·exact pu9
 ·exact ali
def Ls:List (List V×V)→List V→Option V
 | [],_=>none
 |p::l,args=>match BJ args p.1 with
  |true=>some p.2
  |false=>Ls l args
theorem aao:∀{l:List (List V×V)} {args:List V} {v:V},Ls l args=some v→(args,v)∈l
 |p::l,args,v,h=>by
  unfold Ls at h
  split at h
  ·rename_i he
   cases h
   rw[Lr _ _ he];exact List.mem_cons_self ..
  ·exact List.mem_cons_of_mem _ (aao h)
def FB (f:FuncId):Option (List V→Option V):=bif Nat.beq f 71 then some (Ls Fz) else Kn f
theorem alk:iW (E.sm FB) (dz (E.sm FB) 900) 12 []=some (.bool true):=by kernel_rfl
theorem alm {M:Nat} (hM:∀p∈Fz,iW E (dz E M) 71 p.1=some p.2):∀f g,FB f=some g→∀args v,g args=some v→iW E (dz E M) f args=some v:=by
 intro f g hf args v hv
 unfold FB at hf
 cases h1:Nat.beq f 71
 ·rw[h1,cond_false] at hf
  have:E.iV f=some g:=hf
  unfold iW
  rw[this];exact hv
 ·rw[h1,cond_true] at hf
  cases hf
  have:=Nat.eq_of_beq_eq_true h1
  subst this
  exact hM _ (aao hv)
theorem aln:Pure E 12 [] (.bool true):=by
 obtain⟨M,hM⟩:=aan Fz alj
 refine ai2 (alm hM) (fun f hf=> ?_) (by rfl) alk
 unfold FB at hf
 cases h1:Nat.beq f 71
 ·rw[h1,cond_false] at hf;exact hf
 ·rw[h1,cond_true] at hf;cases hf
theorem alo (p:aB R.T []) (x:Bool) (h:some true=some x):Pure E 12 (bA R [] p) (ko [.bool x]):=by
 cases h
 exact aln
end Sh
