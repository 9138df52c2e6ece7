/-
  NARROWER THAN 'FOR EVERY INPUT', by the rows' own cells (each row's printed sentence says how): DaybookSealsAsSpecified: laid · DaybookIsAChain: laid · DaybookGrowsAsSpecified: laid · DaybookHidesAsSpecified: laid · DaybookOpensTheVault: laid · DaybookCodes: laid · DaybookKeepsSecrets: laid.
  DERIVED. THE GIVEN ROWS OF THIS SEAT. 7 by the template 'for every input the law returns true; each argument reads behind the call as it read before'; 0 by the template 'total and deterministic' (their statements: YtdcnajadcbedkaaGreatDoorTotals.lean).
  GIVEN WITH THE SEED: the statements are not yours to turn. If you find one false, say at which input.
  Laid BY PROGRAM, IN A SANDBOX (cutbox-rows.mjs): the forced cells as the released guide's own fill.sh prints them over the translation 045a1b7c9a7c647d… (all of the seat's roots in one cut). By AI agents, Wed Nov 11 2026. No macro, syntax, notation, axiom, sorry.
-/
import Derived.Test.YtdcnajadcbedkaaGreatDoorChecked
import GoSem.Claim
import GoSem.ClaimJoined
import GoSem.ClaimMapViews
import Derived.JoinedTies
import Derived.KernelRfl
namespace Go.Proofs.YtdcnajadcbedkaaGreatDoor
/- THE CELL 'sum', in the pinned program and in every row, IS THE sha256 OF THE DUMP (.gsa) THAT YtdcnajadcbedkaaGreatDoorProg.lean LOADS. Nothing in Lean hashes anything: it is a label: what it is worth is what the hold of that sum in a sandbox is worth. -/
noncomputable def Tryz.pinned : Pinned := { name := "ytdcnajadcbedkaagreatdoor", sum := "045a1b7c9a7c647d4a669c81e9515dcefcaec26c80e84d108191b589c877f92f", checked := Tryz.checked }
namespace Rows
def none {H : Type} : Left H := { results := [], args := [] }

/- WHAT THE LISTED PACKAGE-LEVEL VARIABLES READ AS WHEN THE CALL BEGINS. Each datum BY PROGRAM (the guide's laid-datum.mjs) off the statement by which the dump's own 'gosem.cut.vars' lays the variable. In a bare row this is a premise. The card (YtdcnajadcbedkaaGreatDoorCards.lean) ties it to the program's text. -/
def laid_antiquary_antiquaryref02_constants {H : Type} : DataW H := .agg [.lit (.int .u32 1116352408), .lit (.int .u32 1899447441), .lit (.int .u32 3049323471), .lit (.int .u32 3921009573), .lit (.int .u32 961987163), .lit (.int .u32 1508970993), .lit (.int .u32 2453635748), .lit (.int .u32 2870763221), .lit (.int .u32 3624381080), .lit (.int .u32 310598401), .lit (.int .u32 607225278), .lit (.int .u32 1426881987), .lit (.int .u32 1925078388), .lit (.int .u32 2162078206), .lit (.int .u32 2614888103), .lit (.int .u32 3248222580), .lit (.int .u32 3835390401), .lit (.int .u32 4022224774), .lit (.int .u32 264347078), .lit (.int .u32 604807628), .lit (.int .u32 770255983), .lit (.int .u32 1249150122), .lit (.int .u32 1555081692), .lit (.int .u32 1996064986), .lit (.int .u32 2554220882), .lit (.int .u32 2821834349), .lit (.int .u32 2952996808), .lit (.int .u32 3210313671), .lit (.int .u32 3336571891), .lit (.int .u32 3584528711), .lit (.int .u32 113926993), .lit (.int .u32 338241895), .lit (.int .u32 666307205), .lit (.int .u32 773529912), .lit (.int .u32 1294757372), .lit (.int .u32 1396182291), .lit (.int .u32 1695183700), .lit (.int .u32 1986661051), .lit (.int .u32 2177026350), .lit (.int .u32 2456956037), .lit (.int .u32 2730485921), .lit (.int .u32 2820302411), .lit (.int .u32 3259730800), .lit (.int .u32 3345764771), .lit (.int .u32 3516065817), .lit (.int .u32 3600352804), .lit (.int .u32 4094571909), .lit (.int .u32 275423344), .lit (.int .u32 430227734), .lit (.int .u32 506948616), .lit (.int .u32 659060556), .lit (.int .u32 883997877), .lit (.int .u32 958139571), .lit (.int .u32 1322822218), .lit (.int .u32 1537002063), .lit (.int .u32 1747873779), .lit (.int .u32 1955562222), .lit (.int .u32 2024104815), .lit (.int .u32 2227730452), .lit (.int .u32 2361852424), .lit (.int .u32 2428436474), .lit (.int .u32 2756734187), .lit (.int .u32 3204031479), .lit (.int .u32 3329325298)]
def laid_antiquary_hash_constants {H : Type} : DataW H := .agg [.lit (.int .u32 1116352408), .lit (.int .u32 1899447441), .lit (.int .u32 3049323471), .lit (.int .u32 3921009573), .lit (.int .u32 961987163), .lit (.int .u32 1508970993), .lit (.int .u32 2453635748), .lit (.int .u32 2870763221), .lit (.int .u32 3624381080), .lit (.int .u32 310598401), .lit (.int .u32 607225278), .lit (.int .u32 1426881987), .lit (.int .u32 1925078388), .lit (.int .u32 2162078206), .lit (.int .u32 2614888103), .lit (.int .u32 3248222580), .lit (.int .u32 3835390401), .lit (.int .u32 4022224774), .lit (.int .u32 264347078), .lit (.int .u32 604807628), .lit (.int .u32 770255983), .lit (.int .u32 1249150122), .lit (.int .u32 1555081692), .lit (.int .u32 1996064986), .lit (.int .u32 2554220882), .lit (.int .u32 2821834349), .lit (.int .u32 2952996808), .lit (.int .u32 3210313671), .lit (.int .u32 3336571891), .lit (.int .u32 3584528711), .lit (.int .u32 113926993), .lit (.int .u32 338241895), .lit (.int .u32 666307205), .lit (.int .u32 773529912), .lit (.int .u32 1294757372), .lit (.int .u32 1396182291), .lit (.int .u32 1695183700), .lit (.int .u32 1986661051), .lit (.int .u32 2177026350), .lit (.int .u32 2456956037), .lit (.int .u32 2730485921), .lit (.int .u32 2820302411), .lit (.int .u32 3259730800), .lit (.int .u32 3345764771), .lit (.int .u32 3516065817), .lit (.int .u32 3600352804), .lit (.int .u32 4094571909), .lit (.int .u32 275423344), .lit (.int .u32 430227734), .lit (.int .u32 506948616), .lit (.int .u32 659060556), .lit (.int .u32 883997877), .lit (.int .u32 958139571), .lit (.int .u32 1322822218), .lit (.int .u32 1537002063), .lit (.int .u32 1747873779), .lit (.int .u32 1955562222), .lit (.int .u32 2024104815), .lit (.int .u32 2227730452), .lit (.int .u32 2361852424), .lit (.int .u32 2428436474), .lit (.int .u32 2756734187), .lit (.int .u32 3204031479), .lit (.int .u32 3329325298)]

/-- 'antiquarylaw36.DaybookSealsAsSpecified': WHATEVER THE INPUT: true; the input reads as it did. -/
def daybookSealsAsSpecifiedSpec : ChangeSpec := { name := "daybookSealsAsSpecified", fn := fun _ => fun
  | [d1, d2, d3, d4] => { results := [.lit (.bool true)], args := [d1, d2, d3, d4] }
  | _ => none }
def daybookSealsAsSpecifiedRow : OpenClaim := { program := "ytdcnajadcbedkaagreatdoor", sum := "045a1b7c9a7c647d4a669c81e9515dcefcaec26c80e84d108191b589c877f92f", func := "antiquary/antiquarylaw36.DaybookSealsAsSpecified", spec := "daybookSealsAsSpecified", inPlace := ["internal/bytealg.Compare"], unfollowed := true, recurses := true, named := ["antiquary/hash.constants", "antiquary/antiquaryref02.constants"], apart := false, laid := [("antiquary/antiquaryref02.constants", laid_antiquary_antiquaryref02_constants), ("antiquary/hash.constants", laid_antiquary_hash_constants)] }
def DaybookSealsAsSpecifiedSaid : Prop := daybookSealsAsSpecifiedRow.holds Tryz.pinned (OpenSpec.ofChange daybookSealsAsSpecifiedSpec)

/-- ITS FALSE NEIGHBOUR: 'it returns false'. Refute it at one input. -/
def daybookSealsAsSpecifiedWrong : ChangeSpec := { name := "daybookSealsAsSpecified", fn := fun _ => fun
  | [d1, d2, d3, d4] => { results := [.lit (.bool false)], args := [d1, d2, d3, d4] }
  | _ => none }
def DaybookSealsAsSpecifiedWrongFalsely : Prop := daybookSealsAsSpecifiedRow.holds Tryz.pinned (OpenSpec.ofChange daybookSealsAsSpecifiedWrong)

/-- 'antiquarylaw36.DaybookIsAChain': WHATEVER THE INPUT: true; the input reads as it did. -/
def daybookIsAChainSpec : ChangeSpec := { name := "daybookIsAChain", fn := fun _ => fun
  | [d1, d2, d3, d4] => { results := [.lit (.bool true)], args := [d1, d2, d3, d4] }
  | _ => none }
def daybookIsAChainRow : OpenClaim := { program := "ytdcnajadcbedkaagreatdoor", sum := "045a1b7c9a7c647d4a669c81e9515dcefcaec26c80e84d108191b589c877f92f", func := "antiquary/antiquarylaw36.DaybookIsAChain", spec := "daybookIsAChain", inPlace := ["internal/bytealg.Compare"], unfollowed := true, recurses := true, named := ["antiquary/hash.constants"], apart := false, laid := [("antiquary/hash.constants", laid_antiquary_hash_constants)] }
def DaybookIsAChainSaid : Prop := daybookIsAChainRow.holds Tryz.pinned (OpenSpec.ofChange daybookIsAChainSpec)

/-- ITS FALSE NEIGHBOUR: 'it returns false'. Refute it at one input. -/
def daybookIsAChainWrong : ChangeSpec := { name := "daybookIsAChain", fn := fun _ => fun
  | [d1, d2, d3, d4] => { results := [.lit (.bool false)], args := [d1, d2, d3, d4] }
  | _ => none }
def DaybookIsAChainWrongFalsely : Prop := daybookIsAChainRow.holds Tryz.pinned (OpenSpec.ofChange daybookIsAChainWrong)

/-- 'antiquarylaw36.DaybookGrowsAsSpecified': WHATEVER THE INPUT: true; the input reads as it did. -/
def daybookGrowsAsSpecifiedSpec : ChangeSpec := { name := "daybookGrowsAsSpecified", fn := fun _ => fun
  | [d1, d2] => { results := [.lit (.bool true)], args := [d1, d2] }
  | _ => none }
def daybookGrowsAsSpecifiedRow : OpenClaim := { program := "ytdcnajadcbedkaagreatdoor", sum := "045a1b7c9a7c647d4a669c81e9515dcefcaec26c80e84d108191b589c877f92f", func := "antiquary/antiquarylaw36.DaybookGrowsAsSpecified", spec := "daybookGrowsAsSpecified", inPlace := ["internal/bytealg.Compare"], unfollowed := true, recurses := true, named := ["antiquary/hash.constants", "antiquary/antiquaryref02.constants"], apart := false, laid := [("antiquary/antiquaryref02.constants", laid_antiquary_antiquaryref02_constants), ("antiquary/hash.constants", laid_antiquary_hash_constants)] }
def DaybookGrowsAsSpecifiedSaid : Prop := daybookGrowsAsSpecifiedRow.holds Tryz.pinned (OpenSpec.ofChange daybookGrowsAsSpecifiedSpec)

/-- ITS FALSE NEIGHBOUR: 'it returns false'. Refute it at one input. -/
def daybookGrowsAsSpecifiedWrong : ChangeSpec := { name := "daybookGrowsAsSpecified", fn := fun _ => fun
  | [d1, d2] => { results := [.lit (.bool false)], args := [d1, d2] }
  | _ => none }
def DaybookGrowsAsSpecifiedWrongFalsely : Prop := daybookGrowsAsSpecifiedRow.holds Tryz.pinned (OpenSpec.ofChange daybookGrowsAsSpecifiedWrong)

/-- 'antiquarylaw36.DaybookHidesAsSpecified': WHATEVER THE INPUT: true; the input reads as it did. -/
def daybookHidesAsSpecifiedSpec : ChangeSpec := { name := "daybookHidesAsSpecified", fn := fun _ => fun
  | [d1, d2, d3, d4, d5, d6, d7, d8] => { results := [.lit (.bool true)], args := [d1, d2, d3, d4, d5, d6, d7, d8] }
  | _ => none }
def daybookHidesAsSpecifiedRow : OpenClaim := { program := "ytdcnajadcbedkaagreatdoor", sum := "045a1b7c9a7c647d4a669c81e9515dcefcaec26c80e84d108191b589c877f92f", func := "antiquary/antiquarylaw36.DaybookHidesAsSpecified", spec := "daybookHidesAsSpecified", inPlace := ["internal/bytealg.Compare"], unfollowed := true, recurses := true, named := ["antiquary/hash.constants", "antiquary/antiquaryref02.constants"], apart := false, laid := [("antiquary/antiquaryref02.constants", laid_antiquary_antiquaryref02_constants), ("antiquary/hash.constants", laid_antiquary_hash_constants)] }
def DaybookHidesAsSpecifiedSaid : Prop := daybookHidesAsSpecifiedRow.holds Tryz.pinned (OpenSpec.ofChange daybookHidesAsSpecifiedSpec)

/-- ITS FALSE NEIGHBOUR: 'it returns false'. Refute it at one input. -/
def daybookHidesAsSpecifiedWrong : ChangeSpec := { name := "daybookHidesAsSpecified", fn := fun _ => fun
  | [d1, d2, d3, d4, d5, d6, d7, d8] => { results := [.lit (.bool false)], args := [d1, d2, d3, d4, d5, d6, d7, d8] }
  | _ => none }
def DaybookHidesAsSpecifiedWrongFalsely : Prop := daybookHidesAsSpecifiedRow.holds Tryz.pinned (OpenSpec.ofChange daybookHidesAsSpecifiedWrong)

/-- 'antiquarylaw36.DaybookOpensTheVault': WHATEVER THE INPUT: true; the input reads as it did. -/
def daybookOpensTheVaultSpec : ChangeSpec := { name := "daybookOpensTheVault", fn := fun _ => fun
  | [d1, d2, d3] => { results := [.lit (.bool true)], args := [d1, d2, d3] }
  | _ => none }
def daybookOpensTheVaultRow : OpenClaim := { program := "ytdcnajadcbedkaagreatdoor", sum := "045a1b7c9a7c647d4a669c81e9515dcefcaec26c80e84d108191b589c877f92f", func := "antiquary/antiquarylaw36.DaybookOpensTheVault", spec := "daybookOpensTheVault", inPlace := ["internal/bytealg.Compare"], unfollowed := true, recurses := true, named := ["antiquary/hash.constants", "antiquary/antiquaryref02.constants"], apart := false, laid := [("antiquary/antiquaryref02.constants", laid_antiquary_antiquaryref02_constants), ("antiquary/hash.constants", laid_antiquary_hash_constants)] }
def DaybookOpensTheVaultSaid : Prop := daybookOpensTheVaultRow.holds Tryz.pinned (OpenSpec.ofChange daybookOpensTheVaultSpec)

/-- ITS FALSE NEIGHBOUR: 'it returns false'. Refute it at one input. -/
def daybookOpensTheVaultWrong : ChangeSpec := { name := "daybookOpensTheVault", fn := fun _ => fun
  | [d1, d2, d3] => { results := [.lit (.bool false)], args := [d1, d2, d3] }
  | _ => none }
def DaybookOpensTheVaultWrongFalsely : Prop := daybookOpensTheVaultRow.holds Tryz.pinned (OpenSpec.ofChange daybookOpensTheVaultWrong)

/-- 'antiquarylaw36.DaybookCodes': WHATEVER THE INPUT: true; the input reads as it did. -/
def daybookCodesSpec : ChangeSpec := { name := "daybookCodes", fn := fun _ => fun
  | [d1, d2] => { results := [.lit (.bool true)], args := [d1, d2] }
  | _ => none }
def daybookCodesRow : OpenClaim := { program := "ytdcnajadcbedkaagreatdoor", sum := "045a1b7c9a7c647d4a669c81e9515dcefcaec26c80e84d108191b589c877f92f", func := "antiquary/antiquarylaw36.DaybookCodes", spec := "daybookCodes", inPlace := ["internal/bytealg.Compare"], unfollowed := true, recurses := true, named := ["antiquary/hash.constants"], apart := false, laid := [("antiquary/hash.constants", laid_antiquary_hash_constants)] }
def DaybookCodesSaid : Prop := daybookCodesRow.holds Tryz.pinned (OpenSpec.ofChange daybookCodesSpec)

/-- ITS FALSE NEIGHBOUR: 'it returns false'. Refute it at one input. -/
def daybookCodesWrong : ChangeSpec := { name := "daybookCodes", fn := fun _ => fun
  | [d1, d2] => { results := [.lit (.bool false)], args := [d1, d2] }
  | _ => none }
def DaybookCodesWrongFalsely : Prop := daybookCodesRow.holds Tryz.pinned (OpenSpec.ofChange daybookCodesWrong)

/-- 'antiquarylaw36.DaybookKeepsSecrets': WHATEVER THE INPUT: true; the input reads as it did. -/
def daybookKeepsSecretsSpec : ChangeSpec := { name := "daybookKeepsSecrets", fn := fun _ => fun
  | [d1, d2, d3, d4, d5] => { results := [.lit (.bool true)], args := [d1, d2, d3, d4, d5] }
  | _ => none }
def daybookKeepsSecretsRow : OpenClaim := { program := "ytdcnajadcbedkaagreatdoor", sum := "045a1b7c9a7c647d4a669c81e9515dcefcaec26c80e84d108191b589c877f92f", func := "antiquary/antiquarylaw36.DaybookKeepsSecrets", spec := "daybookKeepsSecrets", inPlace := ["internal/bytealg.Compare"], unfollowed := true, recurses := true, named := ["antiquary/hash.constants"], apart := false, laid := [("antiquary/hash.constants", laid_antiquary_hash_constants)] }
def DaybookKeepsSecretsSaid : Prop := daybookKeepsSecretsRow.holds Tryz.pinned (OpenSpec.ofChange daybookKeepsSecretsSpec)

/-- ITS FALSE NEIGHBOUR: 'it returns false'. Refute it at one input. -/
def daybookKeepsSecretsWrong : ChangeSpec := { name := "daybookKeepsSecrets", fn := fun _ => fun
  | [d1, d2, d3, d4, d5] => { results := [.lit (.bool false)], args := [d1, d2, d3, d4, d5] }
  | _ => none }
def DaybookKeepsSecretsWrongFalsely : Prop := daybookKeepsSecretsRow.holds Tryz.pinned (OpenSpec.ofChange daybookKeepsSecretsWrong)

/- THE SECOND FORM. 'bulk': how many values and letters a reading holds, each counted each time it is reached (what is shared counts as often as it is met; a slice's spare places count too). A statement '..UptoSaid' is the law's where the arguments, and the package variables that the reading takes, are together of bulk at most 1048576: NARROWER than '..Said'. Prove '..Said' where nothing that the law and all that it calls make is longer than what came in: it says more and counts as full. Else prove '..UptoSaid'. A law counts once. -/
mutual
def uptoBulk {H : Type} : DataW H → Nat
  | .lit (.string bytes) => bytes.length + 1
  | .lit _ => 1
  | .nil => 1
  | .ptr d => uptoBulk d + 1
  | .slice elems spare => uptoBulkAll elems + uptoBulkAll spare + 1
  | .agg parts => uptoBulkAll parts + 1
  | .iface _ d => uptoBulk d + 1
  | .map entries => uptoBulkEntries entries + 1
  | .held _ => 1
def uptoBulkAll {H : Type} : List (DataW H) → Nat
  | [] => 0
  | d :: r => uptoBulk d + uptoBulkAll r
def uptoBulkEntries {H : Type} : List (Lit × DataW H) → Nat
  | [] => 0
  | x :: r => uptoBulkEntry x + uptoBulkEntries r
def uptoBulkEntry {H : Type} : Lit × DataW H → Nat
  | (.string bytes, d) => bytes.length + uptoBulk d + 1
  | (_, d) => uptoBulk d + 1
 end
def uptoSmall : (H : Type) → List (DataW H) → Bool := fun _ ds => decide (uptoBulkAll ds ≤ 1048576)
def OpenSpec.upto (s : _root_.Go.ChangeSpec) : _root_.Go.OpenSpec := { _root_.Go.OpenSpec.ofChange s with cond := some uptoSmall }

/-- 'antiquarylaw36.DaybookSealsAsSpecified', WHERE WHAT IT READS IS OF BULK AT MOST 1048576: true; the input reads as it did. -/
def daybookSealsAsSpecifiedUptoRow : OpenClaim := { program := "ytdcnajadcbedkaagreatdoor", sum := "045a1b7c9a7c647d4a669c81e9515dcefcaec26c80e84d108191b589c877f92f", func := "antiquary/antiquarylaw36.DaybookSealsAsSpecified", spec := "daybookSealsAsSpecified", inPlace := ["internal/bytealg.Compare"], unfollowed := true, recurses := true, named := ["antiquary/hash.constants", "antiquary/antiquaryref02.constants"], apart := false, laid := [("antiquary/antiquaryref02.constants", laid_antiquary_antiquaryref02_constants), ("antiquary/hash.constants", laid_antiquary_hash_constants)], narrowed := true }
def DaybookSealsAsSpecifiedUptoSaid : Prop := daybookSealsAsSpecifiedUptoRow.holds Tryz.pinned (OpenSpec.upto daybookSealsAsSpecifiedSpec)

/-- 'antiquarylaw36.DaybookIsAChain', WHERE WHAT IT READS IS OF BULK AT MOST 1048576: true; the input reads as it did. -/
def daybookIsAChainUptoRow : OpenClaim := { program := "ytdcnajadcbedkaagreatdoor", sum := "045a1b7c9a7c647d4a669c81e9515dcefcaec26c80e84d108191b589c877f92f", func := "antiquary/antiquarylaw36.DaybookIsAChain", spec := "daybookIsAChain", inPlace := ["internal/bytealg.Compare"], unfollowed := true, recurses := true, named := ["antiquary/hash.constants"], apart := false, laid := [("antiquary/hash.constants", laid_antiquary_hash_constants)], narrowed := true }
def DaybookIsAChainUptoSaid : Prop := daybookIsAChainUptoRow.holds Tryz.pinned (OpenSpec.upto daybookIsAChainSpec)

/-- 'antiquarylaw36.DaybookGrowsAsSpecified', WHERE WHAT IT READS IS OF BULK AT MOST 1048576: true; the input reads as it did. -/
def daybookGrowsAsSpecifiedUptoRow : OpenClaim := { program := "ytdcnajadcbedkaagreatdoor", sum := "045a1b7c9a7c647d4a669c81e9515dcefcaec26c80e84d108191b589c877f92f", func := "antiquary/antiquarylaw36.DaybookGrowsAsSpecified", spec := "daybookGrowsAsSpecified", inPlace := ["internal/bytealg.Compare"], unfollowed := true, recurses := true, named := ["antiquary/hash.constants", "antiquary/antiquaryref02.constants"], apart := false, laid := [("antiquary/antiquaryref02.constants", laid_antiquary_antiquaryref02_constants), ("antiquary/hash.constants", laid_antiquary_hash_constants)], narrowed := true }
def DaybookGrowsAsSpecifiedUptoSaid : Prop := daybookGrowsAsSpecifiedUptoRow.holds Tryz.pinned (OpenSpec.upto daybookGrowsAsSpecifiedSpec)

/-- 'antiquarylaw36.DaybookHidesAsSpecified', WHERE WHAT IT READS IS OF BULK AT MOST 1048576: true; the input reads as it did. -/
def daybookHidesAsSpecifiedUptoRow : OpenClaim := { program := "ytdcnajadcbedkaagreatdoor", sum := "045a1b7c9a7c647d4a669c81e9515dcefcaec26c80e84d108191b589c877f92f", func := "antiquary/antiquarylaw36.DaybookHidesAsSpecified", spec := "daybookHidesAsSpecified", inPlace := ["internal/bytealg.Compare"], unfollowed := true, recurses := true, named := ["antiquary/hash.constants", "antiquary/antiquaryref02.constants"], apart := false, laid := [("antiquary/antiquaryref02.constants", laid_antiquary_antiquaryref02_constants), ("antiquary/hash.constants", laid_antiquary_hash_constants)], narrowed := true }
def DaybookHidesAsSpecifiedUptoSaid : Prop := daybookHidesAsSpecifiedUptoRow.holds Tryz.pinned (OpenSpec.upto daybookHidesAsSpecifiedSpec)

/-- 'antiquarylaw36.DaybookOpensTheVault', WHERE WHAT IT READS IS OF BULK AT MOST 1048576: true; the input reads as it did. -/
def daybookOpensTheVaultUptoRow : OpenClaim := { program := "ytdcnajadcbedkaagreatdoor", sum := "045a1b7c9a7c647d4a669c81e9515dcefcaec26c80e84d108191b589c877f92f", func := "antiquary/antiquarylaw36.DaybookOpensTheVault", spec := "daybookOpensTheVault", inPlace := ["internal/bytealg.Compare"], unfollowed := true, recurses := true, named := ["antiquary/hash.constants", "antiquary/antiquaryref02.constants"], apart := false, laid := [("antiquary/antiquaryref02.constants", laid_antiquary_antiquaryref02_constants), ("antiquary/hash.constants", laid_antiquary_hash_constants)], narrowed := true }
def DaybookOpensTheVaultUptoSaid : Prop := daybookOpensTheVaultUptoRow.holds Tryz.pinned (OpenSpec.upto daybookOpensTheVaultSpec)

/-- 'antiquarylaw36.DaybookCodes', WHERE WHAT IT READS IS OF BULK AT MOST 1048576: true; the input reads as it did. -/
def daybookCodesUptoRow : OpenClaim := { program := "ytdcnajadcbedkaagreatdoor", sum := "045a1b7c9a7c647d4a669c81e9515dcefcaec26c80e84d108191b589c877f92f", func := "antiquary/antiquarylaw36.DaybookCodes", spec := "daybookCodes", inPlace := ["internal/bytealg.Compare"], unfollowed := true, recurses := true, named := ["antiquary/hash.constants"], apart := false, laid := [("antiquary/hash.constants", laid_antiquary_hash_constants)], narrowed := true }
def DaybookCodesUptoSaid : Prop := daybookCodesUptoRow.holds Tryz.pinned (OpenSpec.upto daybookCodesSpec)

/-- 'antiquarylaw36.DaybookKeepsSecrets', WHERE WHAT IT READS IS OF BULK AT MOST 1048576: true; the input reads as it did. -/
def daybookKeepsSecretsUptoRow : OpenClaim := { program := "ytdcnajadcbedkaagreatdoor", sum := "045a1b7c9a7c647d4a669c81e9515dcefcaec26c80e84d108191b589c877f92f", func := "antiquary/antiquarylaw36.DaybookKeepsSecrets", spec := "daybookKeepsSecrets", inPlace := ["internal/bytealg.Compare"], unfollowed := true, recurses := true, named := ["antiquary/hash.constants"], apart := false, laid := [("antiquary/hash.constants", laid_antiquary_hash_constants)], narrowed := true }
def DaybookKeepsSecretsUptoSaid : Prop := daybookKeepsSecretsUptoRow.holds Tryz.pinned (OpenSpec.upto daybookKeepsSecretsSpec)

end Rows
end Go.Proofs.YtdcnajadcbedkaaGreatDoor
