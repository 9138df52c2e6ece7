/- Part of the proof of a law. -/
import Derived.Test.YtdcnajadcbedkaaGreatDoorS1214
import Derived.Test.YtdcnajadcbedkaaGreatDoorS1220
set_option linter.all false
open Go Go.Proofs Aq
namespace Aq
mutual
def veq:V->V->Bool
 |.int k n,.int k' n'=>if k=k' then if n=n' then true else false else false
 |.str s,.str t=>if s=t then true else false
 |.agg l,.agg m=>D6 l m
 |.aj .sh l,.aj .sh m=>D6 l m
 |_,_=>false
def D6:List V->List V->Bool
 | [],[]=>true
 |x::l,y::m=>match veq x y with
  |true=>D6 l m
  |false=>false
 |_,_=>false
end
mutual
theorem amf:∀(x y:V),veq x y=true->x=y:=by
 intro x y h
 unfold veq at h
 split at h
 ·split at h
  ·split at h
   ·simp_all
   ·cases h
  ·cases h
 ·split at h
  ·simp_all
  ·cases h
 ·rw[Nn _ _ h]
 ·rw[Nn _ _ h]
 ·cases h
theorem Nn:∀(l m:List V),D6 l m=true->l=m:=by
 intro l m h
 unfold D6 at h
 split at h
 ·rfl
 ·split at h
  ·rename_i h1
   rw[amf _ _ h1,Nn _ _ h]
  ·cases h
 ·cases h
end
theorem aby {E:Env} {f:FuncId}:∀(tab:List (List V×V)),(∀p∈tab,Pure E f p.1 p.2)->∃M,∀p∈tab,jJ E (dK E M) f p.1=some p.2
 | [],_=>⟨0,fun p hp=>by cases hp⟩
 |q::tab,h=>by
  obtain⟨M,hM⟩:=aby tab fun p hp=>h p (adF _ hp)
  obtain⟨n,hn⟩:=h q (adg ..)
  refine⟨max M n,fun p hp=> ?_⟩
  rcases adf.1 hp with rfl|hp
  ·exact BQ (kC (ajL _ _)) hn
  ·exact BQ (kC (ajR _ _)) (hM p hp)
end Aq
namespace Sh
set_option maxRecDepth 100000
abbrev kL (t:Int) (ls:List (List UInt8)):List V:=[.int .i64 t,.aj .sh (ls.map V.str)]
theorem fD {t:Int} {ls:List (List UInt8)} {d:bK} (h:qo t ls=d) (hb:(ls.all fun x=>decide (x.length<2^28))=true) (hs:decide (1+yH oQ ls<1000/\ls.length<1000)=true):Pure E 71 (kL t ls) d.v:=by
 have h2:=of_decide_eq_true hs
 have:=aaY 1000 (t,ls) (qo t ls) (hOf (fun x hx=>by have:=adI.1 hb x hx;exact of_decide_eq_true this) (by omega) (by omega) (by omega) (by omega) (by omega))
 rw[<-h];exact this
theorem pu0:Pure E 71 (kL 361 [[12,4,0,0,0,0,0],[0,0,0,0,0,0,0,0,0,0,0,0,0,0,0,0],[0,0,0,0,0,0,0,0,0,0,0,0,0,0,0,0],[0,0,0,0,0,0,0,0,0,0,0,0,0,0,0,0],[0,0,0,0,0,0,0,0,0,0,0,0,0,0,0,0]]) (bK.v ⟨14,85,223,209,244,180,159,218,184,27,131,223,242,197,14,166⟩):=fD dg0 (by kernel_rfl) (by kernel_rfl)
theorem pu1:Pure E 71 (kL 362 [[107],[14,85,223,209,244,180,159,218,184,27,131,223,242,197,14,166],[107]]) (bK.v ⟨180,103,201,137,157,143,86,165,3,243,243,196,201,220,197,208⟩):=fD dg1 (by kernel_rfl) (by kernel_rfl)
theorem pu2:Pure E 71 (kL 361 [[12,4,2,10,0,0,0],[14,85,223,209,244,180,159,218,184,27,131,223,242,197,14,166],[0,0,0,0,0,0,0,0,0,0,0,0,0,0,0,0],[0,0,0,0,0,0,0,0,0,0,0,0,0,0,0,0],[0,0,0,0,0,0,0,0,0,0,0,0,0,0,0,0]]) (bK.v ⟨75,41,175,83,30,37,37,55,106,27,8,206,103,162,56,69⟩):=fD dg2 (by kernel_rfl) (by kernel_rfl)
theorem pu3:Pure E 71 (kL 362 [[107],[75,41,175,83,30,37,37,55,106,27,8,206,103,162,56,69],[107]]) (bK.v ⟨49,227,71,161,179,172,106,225,170,67,164,243,81,209,222,144⟩):=fD dg3 (by kernel_rfl) (by kernel_rfl)
theorem pu4:Pure E 71 (kL 361 [[12,4,2,12,0,0,0],[14,85,223,209,244,180,159,218,184,27,131,223,242,197,14,166],[0,0,0,0,0,0,0,0,0,0,0,0,0,0,0,0],[0,0,0,0,0,0,0,0,0,0,0,0,0,0,0,0],[0,0,0,0,0,0,0,0,0,0,0,0,0,0,0,0]]) (bK.v ⟨255,67,2,236,157,220,170,155,106,241,70,17,21,159,207,83⟩):=fD dg4 (by kernel_rfl) (by kernel_rfl)
theorem pu5:Pure E 71 (kL 362 [[107],[255,67,2,236,157,220,170,155,106,241,70,17,21,159,207,83],[107]]) (bK.v ⟨217,87,125,83,94,47,103,88,40,101,57,10,103,20,150,205⟩):=fD dg5 (by kernel_rfl) (by kernel_rfl)
theorem pu6:Pure E 71 (kL 361 [[12,4,2,12,0,0,0],[1,0,0,0,0,0,0,0,0,0,0,0,0,0,0,0],[0,0,0,0,0,0,0,0,0,0,0,0,0,0,0,0],[0,0,0,0,0,0,0,0,0,0,0,0,0,0,0,0],[0,0,0,0,0,0,0,0,0,0,0,0,0,0,0,0]]) (bK.v ⟨53,106,160,200,229,43,68,238,105,226,89,3,56,226,229,51⟩):=fD dg6 (by kernel_rfl) (by kernel_rfl)
theorem pu7:Pure E 71 (kL 362 [[107],[53,106,160,200,229,43,68,238,105,226,89,3,56,226,229,51],[107]]) (bK.v ⟨36,134,208,158,190,202,169,115,193,123,71,27,39,98,57,44⟩):=fD dg7 (by kernel_rfl) (by kernel_rfl)
theorem pu8:Pure E 71 (kL 361 [[12,4,2,10,0,0,0],[1,0,0,0,0,0,0,0,0,0,0,0,0,0,0,0],[0,0,0,0,0,0,0,0,0,0,0,0,0,0,0,0],[0,0,0,0,0,0,0,0,0,0,0,0,0,0,0,0],[0,0,0,0,0,0,0,0,0,0,0,0,0,0,0,0]]) (bK.v ⟨111,137,43,161,16,179,108,93,41,241,250,29,19,37,192,117⟩):=fD dg8 (by kernel_rfl) (by kernel_rfl)
theorem pu9:Pure E 71 (kL 362 [[107],[111,137,43,161,16,179,108,93,41,241,250,29,19,37,192,117],[107]]) (bK.v ⟨243,9,145,136,53,42,223,188,175,87,73,69,74,212,61,12⟩):=fD dg9 (by kernel_rfl) (by kernel_rfl)
theorem amn:Pure E 71 (kL 121 [[0,0,0,0,0,0,0,0,0,0,0,0,0,0,0,0],[214,5],[20,2,2,2,10,16,130,128,128,1,2,2,2,0,0]]) (bK.v ⟨131,156,47,251,253,15,30,88,31,104,38,183,228,3,4,53⟩):=fD ame (by kernel_rfl) (by kernel_rfl)
def H7:List (List V×V):=[(kL 361 [[12,4,0,0,0,0,0],[0,0,0,0,0,0,0,0,0,0,0,0,0,0,0,0],[0,0,0,0,0,0,0,0,0,0,0,0,0,0,0,0],[0,0,0,0,0,0,0,0,0,0,0,0,0,0,0,0],[0,0,0,0,0,0,0,0,0,0,0,0,0,0,0,0]],bK.v ⟨14,85,223,209,244,180,159,218,184,27,131,223,242,197,14,166⟩),
 (kL 362 [[107],[14,85,223,209,244,180,159,218,184,27,131,223,242,197,14,166],[107]],bK.v ⟨180,103,201,137,157,143,86,165,3,243,243,196,201,220,197,208⟩),
 (kL 361 [[12,4,2,10,0,0,0],[14,85,223,209,244,180,159,218,184,27,131,223,242,197,14,166],[0,0,0,0,0,0,0,0,0,0,0,0,0,0,0,0],[0,0,0,0,0,0,0,0,0,0,0,0,0,0,0,0],[0,0,0,0,0,0,0,0,0,0,0,0,0,0,0,0]],bK.v ⟨75,41,175,83,30,37,37,55,106,27,8,206,103,162,56,69⟩),
 (kL 362 [[107],[75,41,175,83,30,37,37,55,106,27,8,206,103,162,56,69],[107]],bK.v ⟨49,227,71,161,179,172,106,225,170,67,164,243,81,209,222,144⟩),
 (kL 361 [[12,4,2,12,0,0,0],[14,85,223,209,244,180,159,218,184,27,131,223,242,197,14,166],[0,0,0,0,0,0,0,0,0,0,0,0,0,0,0,0],[0,0,0,0,0,0,0,0,0,0,0,0,0,0,0,0],[0,0,0,0,0,0,0,0,0,0,0,0,0,0,0,0]],bK.v ⟨255,67,2,236,157,220,170,155,106,241,70,17,21,159,207,83⟩),
 (kL 362 [[107],[255,67,2,236,157,220,170,155,106,241,70,17,21,159,207,83],[107]],bK.v ⟨217,87,125,83,94,47,103,88,40,101,57,10,103,20,150,205⟩),
 (kL 361 [[12,4,2,12,0,0,0],[1,0,0,0,0,0,0,0,0,0,0,0,0,0,0,0],[0,0,0,0,0,0,0,0,0,0,0,0,0,0,0,0],[0,0,0,0,0,0,0,0,0,0,0,0,0,0,0,0],[0,0,0,0,0,0,0,0,0,0,0,0,0,0,0,0]],bK.v ⟨53,106,160,200,229,43,68,238,105,226,89,3,56,226,229,51⟩),
 (kL 362 [[107],[53,106,160,200,229,43,68,238,105,226,89,3,56,226,229,51],[107]],bK.v ⟨36,134,208,158,190,202,169,115,193,123,71,27,39,98,57,44⟩),
 (kL 361 [[12,4,2,10,0,0,0],[1,0,0,0,0,0,0,0,0,0,0,0,0,0,0,0],[0,0,0,0,0,0,0,0,0,0,0,0,0,0,0,0],[0,0,0,0,0,0,0,0,0,0,0,0,0,0,0,0],[0,0,0,0,0,0,0,0,0,0,0,0,0,0,0,0]],bK.v ⟨111,137,43,161,16,179,108,93,41,241,250,29,19,37,192,117⟩),
 (kL 362 [[107],[111,137,43,161,16,179,108,93,41,241,250,29,19,37,192,117],[107]],bK.v ⟨243,9,145,136,53,42,223,188,175,87,73,69,74,212,61,12⟩),
 (kL 121 [[0,0,0,0,0,0,0,0,0,0,0,0,0,0,0,0],[214,5],[20,2,2,2,10,16,130,128,128,1,2,2,2,0,0]],bK.v ⟨131,156,47,251,253,15,30,88,31,104,38,183,228,3,4,53⟩)]
theorem amo:∀p∈H7,Pure E 71 p.1 p.2:=by
 intro p hp
 simp only[H7,adf,List.not_mem_nil,or_false] at hp
 rcases hp with rfl|rfl|rfl|rfl|rfl|rfl|rfl|rfl|rfl|rfl|rfl
 ·exact pu0
 ·exact pu1
 ·exact pu2
 ·exact pu3
 ·exact pu4
 ·exact pu5
 ·exact pu6
 ·exact pu7
 ·exact pu8
 ·exact pu9
 ·exact amn
def Np:List (List V×V)->List V->Option V
 | [],_=>none
 |p::l,args=>match D6 args p.1 with
  |true=>some p.2
  |false=>Np l args
theorem abz:∀{l:List (List V×V)} {args:List V} {v:V},Np l args=some v->(args,v)∈l
 |p::l,args,v,h=>by
  unfold Np at h
  split at h
  ·rename_i he
   cases h
   rw[Nn _ _ he];exact adg ..
  ·exact adF _ (abz h)
def H8 (f:FuncId):Option (List V->Option V):=bif Nat.beq f 71 then some (Np H7) else MK f
theorem amq:jJ (E.sm H8) (dK (E.sm H8) 900) 12 []=some (.bool true):=by kernel_rfl
theorem amr {M:Nat} (hM:∀p∈H7,jJ E (dK E M) 71 p.1=some p.2):∀f g,H8 f=some g->∀args v,g args=some v->jJ E (dK E M) f args=some v:=by
 intro f g hf args v hv
 unfold H8 at hf
 cases h1:Nat.beq f 71
 ·rw[h1,cond_false] at hf
  have:E.jO f=some g:=hf
  unfold jJ
  rw[this];exact hv
 ·rw[h1,cond_true] at hf
  cases hf
  have:=aml h1
  subst this
  exact hM _ (abz hv)
theorem ams:Pure E 12 [] (.bool true):=by
 obtain⟨M,hM⟩:=aby H7 amo
 refine akA (amr hM) (fun f hf=> ?_) (by rfl) amq
 unfold H8 at hf
 cases h1:Nat.beq f 71
 ·rw[h1,cond_false] at hf;exact hf
 ·rw[h1,cond_true] at hf;cases hf
theorem amt (p:aA R.T []) (x:Bool) (h:some true=some x):Pure E 12 (bG R [] p) (lJ [.bool x]):=by
 cases h
 exact ams
end Sh
