/- Part of the proof of a law. -/
import Derived.Test.YtdcnajadcbedkaaGreatDoorS1115
import Derived.Test.YtdcnajadcbedkaaGreatDoorS1121
set_option linter.all false
set_option linter.unusedSimpArgs false
set_option linter.unusedSectionVars false
open Go Go.Proofs Aq
namespace Aq
mutual
def veq:V→V→Bool
 |.int k n,.int k' n'=>if k=k' then if n=n' then true else false else false
 |.str s,.str t=>if s=t then true else false
 |.agg l,.agg m=>Cr l m
 |.aj .sh l,.aj .sh m=>Cr l m
 |_,_=>false
def Cr:List V→List V→Bool
 | [],[]=>true
 |x::l,y::m=>match veq x y with
  |true=>Cr l m
  |false=>false
 |_,_=>false
end
mutual
theorem aiO:∀(x y:V),veq x y=true→x=y:=by
 intro x y h
 unfold veq at h
 split at h
 ·split at h
  ·split at h
   ·simp_all
   ·cases h
  ·cases h
 ·split at h
  ·simp_all
  ·cases h
 ·rw[Kv _ _ h]
 ·rw[Kv _ _ h]
 ·cases h
theorem Kv:∀(l m:List V),Cr l m=true→l=m:=by
 intro l m h
 unfold Cr at h
 split at h
 ·rfl
 ·split at h
  ·rename_i h1
   rw[aiO _ _ h1,Kv _ _ h]
  ·cases h
 ·cases h
end
theorem Yd {E:Env} {f:FuncId}:∀(tab:List (List V×V)),(∀p∈tab,Pure E f p.1 p.2)→∃M,∀p∈tab,jf E (cB E M) f p.1=some p.2
 | [],_=>⟨0,fun p hp=>by cases hp⟩
 |q::tab,h=>by
  obtain⟨M,hM⟩:=Yd tab fun p hp=>h p (List.mem_cons_of_mem _ hp)
  obtain⟨n,hn⟩:=h q (List.mem_cons_self ..)
  refine⟨max M n,fun p hp=> ?_⟩
  rcases List.mem_cons.1 hp with rfl|hp
  ·exact z8 (jI (Nat.le_max_right _ _)) hn
  ·exact z8 (jI (Nat.le_max_left _ _)) (hM p hp)
end Aq
namespace Sh
set_option maxRecDepth 100000
abbrev jV (t:Int) (ls:List (List UInt8)):List V:=[.int .i64 t,.aj .sh (ls.map V.str)]
theorem dZ {t:Int} {ls:List (List UInt8)} {d:aA} (h:oN t ls=d) (hb:(ls.all fun x=>decide (x.length<2^28))=true) (hs:decide (1+mW nR ls<1000∧ls.length<1000)=true):Pure E 71 (jV t ls) d.v:=by
 have h2:=of_decide_eq_true hs
 have:=XA 1000 (t,ls) (oN t ls) (hOf (fun x hx=>by have:=List.all_eq_true.1 hb x hx;exact of_decide_eq_true this) (by omega) (by omega) (by omega) (by omega) (by omega))
 rw[←h];exact this
theorem pu0:Pure E 71 (jV 361 [[12,4,0,0,0,0,0],[0,0,0,0,0,0,0,0,0,0,0,0,0,0,0,0],[0,0,0,0,0,0,0,0,0,0,0,0,0,0,0,0],[0,0,0,0,0,0,0,0,0,0,0,0,0,0,0,0],[0,0,0,0,0,0,0,0,0,0,0,0,0,0,0,0]]) (aA.v ⟨14,85,223,209,244,180,159,218,184,27,131,223,242,197,14,166⟩):=dZ dg0 (by kernel_rfl) (by kernel_rfl)
theorem pu1:Pure E 71 (jV 362 [[107],[14,85,223,209,244,180,159,218,184,27,131,223,242,197,14,166],[107]]) (aA.v ⟨180,103,201,137,157,143,86,165,3,243,243,196,201,220,197,208⟩):=dZ dg1 (by kernel_rfl) (by kernel_rfl)
theorem pu2:Pure E 71 (jV 361 [[12,4,2,10,0,0,0],[14,85,223,209,244,180,159,218,184,27,131,223,242,197,14,166],[0,0,0,0,0,0,0,0,0,0,0,0,0,0,0,0],[0,0,0,0,0,0,0,0,0,0,0,0,0,0,0,0],[0,0,0,0,0,0,0,0,0,0,0,0,0,0,0,0]]) (aA.v ⟨75,41,175,83,30,37,37,55,106,27,8,206,103,162,56,69⟩):=dZ dg2 (by kernel_rfl) (by kernel_rfl)
theorem pu3:Pure E 71 (jV 362 [[107],[75,41,175,83,30,37,37,55,106,27,8,206,103,162,56,69],[107]]) (aA.v ⟨49,227,71,161,179,172,106,225,170,67,164,243,81,209,222,144⟩):=dZ dg3 (by kernel_rfl) (by kernel_rfl)
theorem pu4:Pure E 71 (jV 361 [[12,4,2,12,0,0,0],[14,85,223,209,244,180,159,218,184,27,131,223,242,197,14,166],[0,0,0,0,0,0,0,0,0,0,0,0,0,0,0,0],[0,0,0,0,0,0,0,0,0,0,0,0,0,0,0,0],[0,0,0,0,0,0,0,0,0,0,0,0,0,0,0,0]]) (aA.v ⟨255,67,2,236,157,220,170,155,106,241,70,17,21,159,207,83⟩):=dZ dg4 (by kernel_rfl) (by kernel_rfl)
theorem pu5:Pure E 71 (jV 362 [[107],[255,67,2,236,157,220,170,155,106,241,70,17,21,159,207,83],[107]]) (aA.v ⟨217,87,125,83,94,47,103,88,40,101,57,10,103,20,150,205⟩):=dZ dg5 (by kernel_rfl) (by kernel_rfl)
theorem pu6:Pure E 71 (jV 361 [[12,4,2,12,0,0,0],[1,0,0,0,0,0,0,0,0,0,0,0,0,0,0,0],[0,0,0,0,0,0,0,0,0,0,0,0,0,0,0,0],[0,0,0,0,0,0,0,0,0,0,0,0,0,0,0,0],[0,0,0,0,0,0,0,0,0,0,0,0,0,0,0,0]]) (aA.v ⟨53,106,160,200,229,43,68,238,105,226,89,3,56,226,229,51⟩):=dZ dg6 (by kernel_rfl) (by kernel_rfl)
theorem pu7:Pure E 71 (jV 362 [[107],[53,106,160,200,229,43,68,238,105,226,89,3,56,226,229,51],[107]]) (aA.v ⟨36,134,208,158,190,202,169,115,193,123,71,27,39,98,57,44⟩):=dZ dg7 (by kernel_rfl) (by kernel_rfl)
theorem pu8:Pure E 71 (jV 361 [[12,4,2,10,0,0,0],[1,0,0,0,0,0,0,0,0,0,0,0,0,0,0,0],[0,0,0,0,0,0,0,0,0,0,0,0,0,0,0,0],[0,0,0,0,0,0,0,0,0,0,0,0,0,0,0,0],[0,0,0,0,0,0,0,0,0,0,0,0,0,0,0,0]]) (aA.v ⟨111,137,43,161,16,179,108,93,41,241,250,29,19,37,192,117⟩):=dZ dg8 (by kernel_rfl) (by kernel_rfl)
theorem pu9:Pure E 71 (jV 362 [[107],[111,137,43,161,16,179,108,93,41,241,250,29,19,37,192,117],[107]]) (aA.v ⟨243,9,145,136,53,42,223,188,175,87,73,69,74,212,61,12⟩):=dZ dg9 (by kernel_rfl) (by kernel_rfl)
theorem aiW:Pure E 71 (jV 121 [[0,0,0,0,0,0,0,0,0,0,0,0,0,0,0,0],[214,5],[20,2,2,2,10,16,130,128,128,1,2,2,2,0,0]]) (aA.v ⟨131,156,47,251,253,15,30,88,31,104,38,183,228,3,4,53⟩):=dZ aiN (by kernel_rfl) (by kernel_rfl)
def Fp:List (List V×V):=[(jV 361 [[12,4,0,0,0,0,0],[0,0,0,0,0,0,0,0,0,0,0,0,0,0,0,0],[0,0,0,0,0,0,0,0,0,0,0,0,0,0,0,0],[0,0,0,0,0,0,0,0,0,0,0,0,0,0,0,0],[0,0,0,0,0,0,0,0,0,0,0,0,0,0,0,0]],aA.v ⟨14,85,223,209,244,180,159,218,184,27,131,223,242,197,14,166⟩),
 (jV 362 [[107],[14,85,223,209,244,180,159,218,184,27,131,223,242,197,14,166],[107]],aA.v ⟨180,103,201,137,157,143,86,165,3,243,243,196,201,220,197,208⟩),
 (jV 361 [[12,4,2,10,0,0,0],[14,85,223,209,244,180,159,218,184,27,131,223,242,197,14,166],[0,0,0,0,0,0,0,0,0,0,0,0,0,0,0,0],[0,0,0,0,0,0,0,0,0,0,0,0,0,0,0,0],[0,0,0,0,0,0,0,0,0,0,0,0,0,0,0,0]],aA.v ⟨75,41,175,83,30,37,37,55,106,27,8,206,103,162,56,69⟩),
 (jV 362 [[107],[75,41,175,83,30,37,37,55,106,27,8,206,103,162,56,69],[107]],aA.v ⟨49,227,71,161,179,172,106,225,170,67,164,243,81,209,222,144⟩),
 (jV 361 [[12,4,2,12,0,0,0],[14,85,223,209,244,180,159,218,184,27,131,223,242,197,14,166],[0,0,0,0,0,0,0,0,0,0,0,0,0,0,0,0],[0,0,0,0,0,0,0,0,0,0,0,0,0,0,0,0],[0,0,0,0,0,0,0,0,0,0,0,0,0,0,0,0]],aA.v ⟨255,67,2,236,157,220,170,155,106,241,70,17,21,159,207,83⟩),
 (jV 362 [[107],[255,67,2,236,157,220,170,155,106,241,70,17,21,159,207,83],[107]],aA.v ⟨217,87,125,83,94,47,103,88,40,101,57,10,103,20,150,205⟩),
 (jV 361 [[12,4,2,12,0,0,0],[1,0,0,0,0,0,0,0,0,0,0,0,0,0,0,0],[0,0,0,0,0,0,0,0,0,0,0,0,0,0,0,0],[0,0,0,0,0,0,0,0,0,0,0,0,0,0,0,0],[0,0,0,0,0,0,0,0,0,0,0,0,0,0,0,0]],aA.v ⟨53,106,160,200,229,43,68,238,105,226,89,3,56,226,229,51⟩),
 (jV 362 [[107],[53,106,160,200,229,43,68,238,105,226,89,3,56,226,229,51],[107]],aA.v ⟨36,134,208,158,190,202,169,115,193,123,71,27,39,98,57,44⟩),
 (jV 361 [[12,4,2,10,0,0,0],[1,0,0,0,0,0,0,0,0,0,0,0,0,0,0,0],[0,0,0,0,0,0,0,0,0,0,0,0,0,0,0,0],[0,0,0,0,0,0,0,0,0,0,0,0,0,0,0,0],[0,0,0,0,0,0,0,0,0,0,0,0,0,0,0,0]],aA.v ⟨111,137,43,161,16,179,108,93,41,241,250,29,19,37,192,117⟩),
 (jV 362 [[107],[111,137,43,161,16,179,108,93,41,241,250,29,19,37,192,117],[107]],aA.v ⟨243,9,145,136,53,42,223,188,175,87,73,69,74,212,61,12⟩),
 (jV 121 [[0,0,0,0,0,0,0,0,0,0,0,0,0,0,0,0],[214,5],[20,2,2,2,10,16,130,128,128,1,2,2,2,0,0]],aA.v ⟨131,156,47,251,253,15,30,88,31,104,38,183,228,3,4,53⟩)]
theorem aiX:∀p∈Fp,Pure E 71 p.1 p.2:=by
 intro p hp
 simp only[Fp,List.mem_cons,List.not_mem_nil,or_false] at hp
 rcases hp with rfl|rfl|rfl|rfl|rfl|rfl|rfl|rfl|rfl|rfl|rfl
 ·exact pu0
 ·exact pu1
 ·exact pu2
 ·exact pu3
 ·exact pu4
 ·exact pu5
 ·exact pu6
 ·exact pu7
 ·exact pu8
 ·exact pu9
 ·exact aiW
def Kw:List (List V×V)→List V→Option V
 | [],_=>none
 |p::l,args=>match Cr args p.1 with
  |true=>some p.2
  |false=>Kw l args
theorem Ye:∀{l:List (List V×V)} {args:List V} {v:V},Kw l args=some v→(args,v)∈l
 |p::l,args,v,h=>by
  unfold Kw at h
  split at h
  ·rename_i he
   cases h
   rw[Kv _ _ he];exact List.mem_cons_self ..
  ·exact List.mem_cons_of_mem _ (Ye h)
def Fq (f:FuncId):Option (List V→Option V):=bif Nat.beq f 71 then some (Kw Fp) else JQ f
theorem aiY:jf (E.sm Fq) (cB (E.sm Fq) 900) 12 []=some (.bool true):=by kernel_rfl
theorem aiZ {M:Nat} (hM:∀p∈Fp,jf E (cB E M) 71 p.1=some p.2):∀f g,Fq f=some g→∀args v,g args=some v→jf E (cB E M) f args=some v:=by
 intro f g hf args v hv
 unfold Fq at hf
 cases h1:Nat.beq f 71
 ·rw[h1,cond_false] at hf
  have:E.je f=some g:=hf
  unfold jf
  rw[this];exact hv
 ·rw[h1,cond_true] at hf
  cases hf
  have:=Nat.eq_of_beq_eq_true h1
  subst this
  exact hM _ (Ye hv)
theorem ai0:Pure E 12 [] (.bool true):=by
 obtain⟨M,hM⟩:=Yd Fp aiX
 refine ag9 (aiZ hM) (fun f hf=> ?_) (by rfl) aiY
 unfold Fq at hf
 cases h1:Nat.beq f 71
 ·rw[h1,cond_false] at hf;exact hf
 ·rw[h1,cond_true] at hf;cases hf
theorem ai1 (p:aJ R.T []) (x:Bool) (h:some true=some x):Pure E 12 (aY R [] p) (mO [.bool x]):=by
 cases h
 exact ai0
end Sh
