/- Part of the proof of a law. -/
import Derived.Test.YtdcnajadcbedkaaGreatDoorS715
import Derived.Test.YtdcnajadcbedkaaGreatDoorS721
set_option linter.all false
set_option linter.unusedSimpArgs false
set_option linter.unusedSectionVars false
open Go Go.Proofs Aq
namespace Aq
mutual
def veq:V→V→Bool
 |.int k n,.int k' n'=>if k=k' then if n=n' then true else false else false
 |.str s,.str t=>if s=t then true else false
 |.agg l,.agg m=>Bd l m
 |.aj .sh l,.aj .sh m=>Bd l m
 |_,_=>false
def Bd:List V→List V→Bool
 | [],[]=>true
 |x::l,y::m=>match veq x y with
  |true=>Bd l m
  |false=>false
 |_,_=>false
end
mutual
theorem ah7:∀(x y:V),veq x y=true→x=y:=by
 intro x y h
 unfold veq at h
 split at h
 ·split at h
  ·split at h
   ·simp_all
   ·cases h
  ·cases h
 ·split at h
  ·simp_all
  ·cases h
 ·rw[JD _ _ h]
 ·rw[JD _ _ h]
 ·cases h
theorem JD:∀(l m:List V),Bd l m=true→l=m:=by
 intro l m h
 unfold Bd at h
 split at h
 ·rfl
 ·split at h
  ·rename_i h1
   rw[ah7 _ _ h1,JD _ _ h]
  ·cases h
 ·cases h
end
theorem XA {E:Env} {f:FuncId}:∀(tab:List (List V×V)),(∀p∈tab,Pure E f p.1 p.2)→∃M,∀p∈tab,iQ E (bX E M) f p.1=some p.2
 | [],_=>⟨0,fun p hp=>by cases hp⟩
 |q::tab,h=>by
  obtain⟨M,hM⟩:=XA tab fun p hp=>h p (List.mem_cons_of_mem _ hp)
  obtain⟨n,hn⟩:=h q (List.mem_cons_self ..)
  refine⟨max M n,fun p hp=> ?_⟩
  rcases List.mem_cons.1 hp with rfl|hp
  ·exact y7 (jM (Nat.le_max_right _ _)) hn
  ·exact y7 (jM (Nat.le_max_left _ _)) (hM p hp)
end Aq
namespace Sh
set_option maxRecDepth 100000
abbrev jE (t:Int) (ls:List (List UInt8)):List V:=[.int .i64 t,.aj .sh (ls.map V.str)]
theorem dX {t:Int} {ls:List (List UInt8)} {d:aJ} (h:mo t ls=d) (hb:(ls.all fun x=>decide (x.length<2^28))=true) (hs:decide (1+mh kr ls<1000∧ls.length<1000)=true):Pure E 71 (jE t ls) d.v:=by
 have h2:=of_decide_eq_true hs
 have:=WT 1000 (t,ls) (mo t ls) (Pw (fun x hx=>by have:=List.all_eq_true.1 hb x hx;exact of_decide_eq_true this) (by omega) (by omega) (by omega) (by omega) (by omega))
 rw[←h];exact this
theorem pu0:Pure E 71 (jE 361 [[12,4,0,0,0,0,0],[0,0,0,0,0,0,0,0,0,0,0,0,0,0,0,0],[0,0,0,0,0,0,0,0,0,0,0,0,0,0,0,0],[0,0,0,0,0,0,0,0,0,0,0,0,0,0,0,0],[0,0,0,0,0,0,0,0,0,0,0,0,0,0,0,0]]) (aJ.v ⟨14,85,223,209,244,180,159,218,184,27,131,223,242,197,14,166⟩):=dX dg0 (by kernel_rfl) (by kernel_rfl)
theorem pu1:Pure E 71 (jE 362 [[107],[14,85,223,209,244,180,159,218,184,27,131,223,242,197,14,166],[107]]) (aJ.v ⟨180,103,201,137,157,143,86,165,3,243,243,196,201,220,197,208⟩):=dX dg1 (by kernel_rfl) (by kernel_rfl)
theorem pu2:Pure E 71 (jE 361 [[12,4,2,10,0,0,0],[14,85,223,209,244,180,159,218,184,27,131,223,242,197,14,166],[0,0,0,0,0,0,0,0,0,0,0,0,0,0,0,0],[0,0,0,0,0,0,0,0,0,0,0,0,0,0,0,0],[0,0,0,0,0,0,0,0,0,0,0,0,0,0,0,0]]) (aJ.v ⟨75,41,175,83,30,37,37,55,106,27,8,206,103,162,56,69⟩):=dX dg2 (by kernel_rfl) (by kernel_rfl)
theorem pu3:Pure E 71 (jE 362 [[107],[75,41,175,83,30,37,37,55,106,27,8,206,103,162,56,69],[107]]) (aJ.v ⟨49,227,71,161,179,172,106,225,170,67,164,243,81,209,222,144⟩):=dX dg3 (by kernel_rfl) (by kernel_rfl)
theorem pu4:Pure E 71 (jE 361 [[12,4,2,12,0,0,0],[14,85,223,209,244,180,159,218,184,27,131,223,242,197,14,166],[0,0,0,0,0,0,0,0,0,0,0,0,0,0,0,0],[0,0,0,0,0,0,0,0,0,0,0,0,0,0,0,0],[0,0,0,0,0,0,0,0,0,0,0,0,0,0,0,0]]) (aJ.v ⟨255,67,2,236,157,220,170,155,106,241,70,17,21,159,207,83⟩):=dX dg4 (by kernel_rfl) (by kernel_rfl)
theorem pu5:Pure E 71 (jE 362 [[107],[255,67,2,236,157,220,170,155,106,241,70,17,21,159,207,83],[107]]) (aJ.v ⟨217,87,125,83,94,47,103,88,40,101,57,10,103,20,150,205⟩):=dX dg5 (by kernel_rfl) (by kernel_rfl)
theorem pu6:Pure E 71 (jE 361 [[12,4,2,12,0,0,0],[1,0,0,0,0,0,0,0,0,0,0,0,0,0,0,0],[0,0,0,0,0,0,0,0,0,0,0,0,0,0,0,0],[0,0,0,0,0,0,0,0,0,0,0,0,0,0,0,0],[0,0,0,0,0,0,0,0,0,0,0,0,0,0,0,0]]) (aJ.v ⟨53,106,160,200,229,43,68,238,105,226,89,3,56,226,229,51⟩):=dX dg6 (by kernel_rfl) (by kernel_rfl)
theorem pu7:Pure E 71 (jE 362 [[107],[53,106,160,200,229,43,68,238,105,226,89,3,56,226,229,51],[107]]) (aJ.v ⟨36,134,208,158,190,202,169,115,193,123,71,27,39,98,57,44⟩):=dX dg7 (by kernel_rfl) (by kernel_rfl)
theorem pu8:Pure E 71 (jE 361 [[12,4,2,10,0,0,0],[1,0,0,0,0,0,0,0,0,0,0,0,0,0,0,0],[0,0,0,0,0,0,0,0,0,0,0,0,0,0,0,0],[0,0,0,0,0,0,0,0,0,0,0,0,0,0,0,0],[0,0,0,0,0,0,0,0,0,0,0,0,0,0,0,0]]) (aJ.v ⟨111,137,43,161,16,179,108,93,41,241,250,29,19,37,192,117⟩):=dX dg8 (by kernel_rfl) (by kernel_rfl)
theorem pu9:Pure E 71 (jE 362 [[107],[111,137,43,161,16,179,108,93,41,241,250,29,19,37,192,117],[107]]) (aJ.v ⟨243,9,145,136,53,42,223,188,175,87,73,69,74,212,61,12⟩):=dX dg9 (by kernel_rfl) (by kernel_rfl)
theorem aii:Pure E 71 (jE 121 [[0,0,0,0,0,0,0,0,0,0,0,0,0,0,0,0],[214,5],[20,2,2,2,10,16,130,128,128,1,2,2,2,0,0]]) (aJ.v ⟨131,156,47,251,253,15,30,88,31,104,38,183,228,3,4,53⟩):=dX ah6 (by kernel_rfl) (by kernel_rfl)
def El:List (List V×V):=[(jE 361 [[12,4,0,0,0,0,0],[0,0,0,0,0,0,0,0,0,0,0,0,0,0,0,0],[0,0,0,0,0,0,0,0,0,0,0,0,0,0,0,0],[0,0,0,0,0,0,0,0,0,0,0,0,0,0,0,0],[0,0,0,0,0,0,0,0,0,0,0,0,0,0,0,0]],aJ.v ⟨14,85,223,209,244,180,159,218,184,27,131,223,242,197,14,166⟩),
 (jE 362 [[107],[14,85,223,209,244,180,159,218,184,27,131,223,242,197,14,166],[107]],aJ.v ⟨180,103,201,137,157,143,86,165,3,243,243,196,201,220,197,208⟩),
 (jE 361 [[12,4,2,10,0,0,0],[14,85,223,209,244,180,159,218,184,27,131,223,242,197,14,166],[0,0,0,0,0,0,0,0,0,0,0,0,0,0,0,0],[0,0,0,0,0,0,0,0,0,0,0,0,0,0,0,0],[0,0,0,0,0,0,0,0,0,0,0,0,0,0,0,0]],aJ.v ⟨75,41,175,83,30,37,37,55,106,27,8,206,103,162,56,69⟩),
 (jE 362 [[107],[75,41,175,83,30,37,37,55,106,27,8,206,103,162,56,69],[107]],aJ.v ⟨49,227,71,161,179,172,106,225,170,67,164,243,81,209,222,144⟩),
 (jE 361 [[12,4,2,12,0,0,0],[14,85,223,209,244,180,159,218,184,27,131,223,242,197,14,166],[0,0,0,0,0,0,0,0,0,0,0,0,0,0,0,0],[0,0,0,0,0,0,0,0,0,0,0,0,0,0,0,0],[0,0,0,0,0,0,0,0,0,0,0,0,0,0,0,0]],aJ.v ⟨255,67,2,236,157,220,170,155,106,241,70,17,21,159,207,83⟩),
 (jE 362 [[107],[255,67,2,236,157,220,170,155,106,241,70,17,21,159,207,83],[107]],aJ.v ⟨217,87,125,83,94,47,103,88,40,101,57,10,103,20,150,205⟩),
 (jE 361 [[12,4,2,12,0,0,0],[1,0,0,0,0,0,0,0,0,0,0,0,0,0,0,0],[0,0,0,0,0,0,0,0,0,0,0,0,0,0,0,0],[0,0,0,0,0,0,0,0,0,0,0,0,0,0,0,0],[0,0,0,0,0,0,0,0,0,0,0,0,0,0,0,0]],aJ.v ⟨53,106,160,200,229,43,68,238,105,226,89,3,56,226,229,51⟩),
 (jE 362 [[107],[53,106,160,200,229,43,68,238,105,226,89,3,56,226,229,51],[107]],aJ.v ⟨36,134,208,158,190,202,169,115,193,123,71,27,39,98,57,44⟩),
 (jE 361 [[12,4,2,10,0,0,0],[1,0,0,0,0,0,0,0,0,0,0,0,0,0,0,0],[0,0,0,0,0,0,0,0,0,0,0,0,0,0,0,0],[0,0,0,0,0,0,0,0,0,0,0,0,0,0,0,0],[0,0,0,0,0,0,0,0,0,0,0,0,0,0,0,0]],aJ.v ⟨111,137,43,161,16,179,108,93,41,241,250,29,19,37,192,117⟩),
 (jE 362 [[107],[111,137,43,161,16,179,108,93,41,241,250,29,19,37,192,117],[107]],aJ.v ⟨243,9,145,136,53,42,223,188,175,87,73,69,74,212,61,12⟩),
 (jE 121 [[0,0,0,0,0,0,0,0,0,0,0,0,0,0,0,0],[214,5],[20,2,2,2,10,16,130,128,128,1,2,2,2,0,0]],aJ.v ⟨131,156,47,251,253,15,30,88,31,104,38,183,228,3,4,53⟩)]
theorem aij:∀p∈El,Pure E 71 p.1 p.2:=by
 intro p hp
 simp only[El,List.mem_cons,List.not_mem_nil,or_false] at hp
 rcases hp with rfl|rfl|rfl|rfl|rfl|rfl|rfl|rfl|rfl|rfl|rfl
 ·exact pu0
 ·exact pu1
 ·exact pu2
 ·exact pu3
 ·exact pu4
 ·exact pu5
 ·exact pu6
 ·exact pu7
 ·exact pu8
 ·exact pu9
 ·exact aii
def JE:List (List V×V)→List V→Option V
 | [],_=>none
 |p::l,args=>match Bd args p.1 with
  |true=>some p.2
  |false=>JE l args
theorem XB:∀{l:List (List V×V)} {args:List V} {v:V},JE l args=some v→(args,v)∈l
 |p::l,args,v,h=>by
  unfold JE at h
  split at h
  ·rename_i he
   cases h
   rw[JD _ _ he];exact List.mem_cons_self ..
  ·exact List.mem_cons_of_mem _ (XB h)
def Em (f:FuncId):Option (List V→Option V):=bif Nat.beq f 71 then some (JE El) else I5 f
theorem aik:iQ (E.sm Em) (bX (E.sm Em) 900) 12 []=some (.bool true):=by kernel_rfl
theorem ail {M:Nat} (hM:∀p∈El,iQ E (bX E M) 71 p.1=some p.2):∀f g,Em f=some g→∀args v,g args=some v→iQ E (bX E M) f args=some v:=by
 intro f g hf args v hv
 unfold Em at hf
 cases h1:Nat.beq f 71
 ·rw[h1,cond_false] at hf
  have:E.iZ f=some g:=hf
  unfold iQ
  rw[this];exact hv
 ·rw[h1,cond_true] at hf
  cases hf
  have:=Nat.eq_of_beq_eq_true h1
  subst this
  exact hM _ (XB hv)
theorem ain:Pure E 12 [] (.bool true):=by
 obtain⟨M,hM⟩:=XA El aij
 refine agr (ail hM) (fun f hf=> ?_) (by rfl) aik
 unfold Em at hf
 cases h1:Nat.beq f 71
 ·rw[h1,cond_false] at hf;exact hf
 ·rw[h1,cond_true] at hf;cases hf
theorem aio (p:aH R.T []) (x:Bool) (h:some true=some x):Pure E 12 (bf R [] p) (kZ [.bool x]):=by
 cases h
 exact ain
end Sh
