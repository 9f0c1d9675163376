/-
  NARROWER THAN 'FOR EVERY INPUT', by the rows' own cells (each row's printed sentence says how): AuditTakes: laid · AuditSound: laid · AuditFollows: laid · AuditGrows: laid · AuditProves: laid · AuditForms: laid · AuditStands: laid · AuditExact: laid.
  DERIVED. THE GIVEN ROWS OF THIS SEAT. 8 by the template 'for every input the law returns true; each argument reads behind the call as it read before'; 0 by the template 'total and deterministic' (their statements: YtecbgdnoblhldaaGreatDoorTotals.lean).
  GIVEN WITH THE SEED: the statements are not yours to turn. If you find one false, say at which input.
  Laid BY PROGRAM, IN A SANDBOX (cutbox-rows.mjs): the forced cells as the released guide's own fill.sh prints them over the translation 4e8ad1f1a7a33588… (all of the seat's roots in one cut). By AI agents, Wed Nov 11 2026. No macro, syntax, notation, axiom, sorry.
-/
import Derived.Test.YtecbgdnoblhldaaGreatDoorChecked
import GoSem.PinnedTables
import GoSem.Claim
import GoSem.ClaimJoined
import GoSem.ClaimMapViews
import Derived.JoinedTies
import Derived.KernelRfl
namespace Go.Proofs.YtecbgdnoblhldaaGreatDoor
/- THE CELL 'sum', in the pinned program and in every row, IS THE sha256 OF THE DUMP (.gsa) THAT YtecbgdnoblhldaaGreatDoorProg.lean LOADS. Nothing in Lean hashes anything: it is a label: what it is worth is what the hold of that sum in a sandbox is worth. -/
noncomputable def Tryz.pinned : Pinned := { name := "ytecbgdnoblhldaagreatdoor", sum := "4e8ad1f1a7a3358804dd77b94ea86dad957f65ee8e2c8214505f085418f53e16", checked := Tryz.checked }
namespace Rows
def none {H : Type} : Left H := { results := [], args := [] }

/- WHAT THE LISTED PACKAGE-LEVEL VARIABLES READ AS WHEN THE CALL BEGINS. Each datum BY PROGRAM (the guide's laid-datum.mjs) off the statement by which the dump's own 'gosem.cut.vars' lays the variable. In a bare row this is a premise. The card (YtecbgdnoblhldaaGreatDoorCards.lean) ties it to the program's text. -/
def laid_postern_digest_keys {H : Type} : DataW H := .agg [.lit (.int .u32 1116352408), .lit (.int .u32 1899447441), .lit (.int .u32 3049323471), .lit (.int .u32 3921009573), .lit (.int .u32 961987163), .lit (.int .u32 1508970993), .lit (.int .u32 2453635748), .lit (.int .u32 2870763221), .lit (.int .u32 3624381080), .lit (.int .u32 310598401), .lit (.int .u32 607225278), .lit (.int .u32 1426881987), .lit (.int .u32 1925078388), .lit (.int .u32 2162078206), .lit (.int .u32 2614888103), .lit (.int .u32 3248222580), .lit (.int .u32 3835390401), .lit (.int .u32 4022224774), .lit (.int .u32 264347078), .lit (.int .u32 604807628), .lit (.int .u32 770255983), .lit (.int .u32 1249150122), .lit (.int .u32 1555081692), .lit (.int .u32 1996064986), .lit (.int .u32 2554220882), .lit (.int .u32 2821834349), .lit (.int .u32 2952996808), .lit (.int .u32 3210313671), .lit (.int .u32 3336571891), .lit (.int .u32 3584528711), .lit (.int .u32 113926993), .lit (.int .u32 338241895), .lit (.int .u32 666307205), .lit (.int .u32 773529912), .lit (.int .u32 1294757372), .lit (.int .u32 1396182291), .lit (.int .u32 1695183700), .lit (.int .u32 1986661051), .lit (.int .u32 2177026350), .lit (.int .u32 2456956037), .lit (.int .u32 2730485921), .lit (.int .u32 2820302411), .lit (.int .u32 3259730800), .lit (.int .u32 3345764771), .lit (.int .u32 3516065817), .lit (.int .u32 3600352804), .lit (.int .u32 4094571909), .lit (.int .u32 275423344), .lit (.int .u32 430227734), .lit (.int .u32 506948616), .lit (.int .u32 659060556), .lit (.int .u32 883997877), .lit (.int .u32 958139571), .lit (.int .u32 1322822218), .lit (.int .u32 1537002063), .lit (.int .u32 1747873779), .lit (.int .u32 1955562222), .lit (.int .u32 2024104815), .lit (.int .u32 2227730452), .lit (.int .u32 2361852424), .lit (.int .u32 2428436474), .lit (.int .u32 2756734187), .lit (.int .u32 3204031479), .lit (.int .u32 3329325298)]
def laid_unicode_utf8_acceptRanges {H : Type} : DataW H := .agg [.agg [.lit (.int .u8 128), .lit (.int .u8 191)], .agg [.lit (.int .u8 160), .lit (.int .u8 191)], .agg [.lit (.int .u8 128), .lit (.int .u8 159)], .agg [.lit (.int .u8 144), .lit (.int .u8 191)], .agg [.lit (.int .u8 128), .lit (.int .u8 143)], .agg [.lit (.int .u8 0), .lit (.int .u8 0)], .agg [.lit (.int .u8 0), .lit (.int .u8 0)], .agg [.lit (.int .u8 0), .lit (.int .u8 0)], .agg [.lit (.int .u8 0), .lit (.int .u8 0)], .agg [.lit (.int .u8 0), .lit (.int .u8 0)], .agg [.lit (.int .u8 0), .lit (.int .u8 0)], .agg [.lit (.int .u8 0), .lit (.int .u8 0)], .agg [.lit (.int .u8 0), .lit (.int .u8 0)], .agg [.lit (.int .u8 0), .lit (.int .u8 0)], .agg [.lit (.int .u8 0), .lit (.int .u8 0)], .agg [.lit (.int .u8 0), .lit (.int .u8 0)]]
def laid_postern_record_part {H : Type} : DataW H := .agg [.lit (.int .u32 0), .lit (.int .u32 498536548), .lit (.int .u32 997073096), .lit (.int .u32 651767980), .lit (.int .u32 1994146192), .lit (.int .u32 1802195444), .lit (.int .u32 1303535960), .lit (.int .u32 1342533948), .lit (.int .u32 3988292384), .lit (.int .u32 4027552580), .lit (.int .u32 3604390888), .lit (.int .u32 3412177804), .lit (.int .u32 2607071920), .lit (.int .u32 2262029012), .lit (.int .u32 2685067896), .lit (.int .u32 3183342108)]
/-- One of Go's own tables, pinned by name: the form's constant. -/
def laid_unicode_utf8_first : DataW Unit := Go.Pinned.utf8First

/-- 'posternlaw22.AuditTakes': WHATEVER THE INPUT: true; the input reads as it did. -/
def auditTakesSpec : ChangeSpec := { name := "auditTakes", fn := fun _ => fun
  | [d] => { results := [.lit (.bool true)], args := [d] }
  | _ => none }
def auditTakesRow : OpenClaim := { program := "ytecbgdnoblhldaagreatdoor", sum := "4e8ad1f1a7a3358804dd77b94ea86dad957f65ee8e2c8214505f085418f53e16", func := "postern/posternlaw22.AuditTakes", spec := "auditTakes", inPlace := ["internal/bytealg.IndexByteString", "internal/bytealg.IndexString", "(*internal/sync.Mutex).Lock", "internal/race.Disable", "sync/atomic.CompareAndSwapInt32", "internal/race.Enable", "internal/race.Acquire", "(*internal/sync.Mutex).lockSlow", "internal/sync.runtime_canSpin", "internal/sync.runtime_doSpin", "internal/sync.throw", "internal/sync.runtime_nanotime", "internal/sync.runtime_SemacquireMutex", "sync/atomic.AddInt32", "(*internal/sync.Mutex).Unlock", "internal/race.ReleaseMerge", "(*internal/sync.Mutex).unlockSlow", "internal/sync.fatal", "internal/sync.runtime_Semrelease"], unfollowed := true, recurses := true, named := ["postern/digest.keys", "unicode/utf8.first", "unicode/utf8.acceptRanges", "postern/record.part", "internal/bytealg.MaxLen"], apart := false, laid := [("postern/digest.keys", laid_postern_digest_keys), ("unicode/utf8.acceptRanges", laid_unicode_utf8_acceptRanges), ("postern/record.part", laid_postern_record_part), ("unicode/utf8.first", laid_unicode_utf8_first)] }
def AuditTakesSaid : Prop := auditTakesRow.holds Tryz.pinned (OpenSpec.ofChange auditTakesSpec)

/-- ITS FALSE NEIGHBOUR: 'it returns false'. Refute it at one input. -/
def auditTakesWrong : ChangeSpec := { name := "auditTakes", fn := fun _ => fun
  | [d] => { results := [.lit (.bool false)], args := [d] }
  | _ => none }
def AuditTakesWrongFalsely : Prop := auditTakesRow.holds Tryz.pinned (OpenSpec.ofChange auditTakesWrong)

/-- 'posternlaw22.AuditSound': WHATEVER THE INPUT: true; the input reads as it did. -/
def auditSoundSpec : ChangeSpec := { name := "auditSound", fn := fun _ => fun
  | [d] => { results := [.lit (.bool true)], args := [d] }
  | _ => none }
def auditSoundRow : OpenClaim := { program := "ytecbgdnoblhldaagreatdoor", sum := "4e8ad1f1a7a3358804dd77b94ea86dad957f65ee8e2c8214505f085418f53e16", func := "postern/posternlaw22.AuditSound", spec := "auditSound", inPlace := ["internal/bytealg.IndexByteString", "internal/bytealg.IndexString", "(*internal/sync.Mutex).Lock", "internal/race.Disable", "sync/atomic.CompareAndSwapInt32", "internal/race.Enable", "internal/race.Acquire", "(*internal/sync.Mutex).lockSlow", "internal/sync.runtime_canSpin", "internal/sync.runtime_doSpin", "internal/sync.throw", "internal/sync.runtime_nanotime", "internal/sync.runtime_SemacquireMutex", "sync/atomic.AddInt32", "(*internal/sync.Mutex).Unlock", "internal/race.ReleaseMerge", "(*internal/sync.Mutex).unlockSlow", "internal/sync.fatal", "internal/sync.runtime_Semrelease"], unfollowed := true, recurses := true, named := ["unicode/utf8.first", "unicode/utf8.acceptRanges", "postern/record.part", "postern/digest.keys", "internal/bytealg.MaxLen"], apart := false, laid := [("postern/digest.keys", laid_postern_digest_keys), ("unicode/utf8.acceptRanges", laid_unicode_utf8_acceptRanges), ("postern/record.part", laid_postern_record_part), ("unicode/utf8.first", laid_unicode_utf8_first)] }
def AuditSoundSaid : Prop := auditSoundRow.holds Tryz.pinned (OpenSpec.ofChange auditSoundSpec)

/-- ITS FALSE NEIGHBOUR: 'it returns false'. Refute it at one input. -/
def auditSoundWrong : ChangeSpec := { name := "auditSound", fn := fun _ => fun
  | [d] => { results := [.lit (.bool false)], args := [d] }
  | _ => none }
def AuditSoundWrongFalsely : Prop := auditSoundRow.holds Tryz.pinned (OpenSpec.ofChange auditSoundWrong)

/-- 'posternlaw22.AuditFollows': WHATEVER THE INPUT: true; the input reads as it did. -/
def auditFollowsSpec : ChangeSpec := { name := "auditFollows", fn := fun _ => fun
  | [d] => { results := [.lit (.bool true)], args := [d] }
  | _ => none }
def auditFollowsRow : OpenClaim := { program := "ytecbgdnoblhldaagreatdoor", sum := "4e8ad1f1a7a3358804dd77b94ea86dad957f65ee8e2c8214505f085418f53e16", func := "postern/posternlaw22.AuditFollows", spec := "auditFollows", inPlace := ["internal/bytealg.IndexByteString", "internal/bytealg.IndexString", "(*internal/sync.Mutex).Lock", "internal/race.Disable", "sync/atomic.CompareAndSwapInt32", "internal/race.Enable", "internal/race.Acquire", "(*internal/sync.Mutex).lockSlow", "internal/sync.runtime_canSpin", "internal/sync.runtime_doSpin", "internal/sync.throw", "internal/sync.runtime_nanotime", "internal/sync.runtime_SemacquireMutex", "sync/atomic.AddInt32", "(*internal/sync.Mutex).Unlock", "internal/race.ReleaseMerge", "(*internal/sync.Mutex).unlockSlow", "internal/sync.fatal", "internal/sync.runtime_Semrelease"], unfollowed := true, recurses := true, named := ["unicode/utf8.first", "unicode/utf8.acceptRanges", "postern/record.part", "postern/digest.keys", "internal/bytealg.MaxLen"], apart := false, laid := [("postern/digest.keys", laid_postern_digest_keys), ("unicode/utf8.acceptRanges", laid_unicode_utf8_acceptRanges), ("postern/record.part", laid_postern_record_part), ("unicode/utf8.first", laid_unicode_utf8_first)] }
def AuditFollowsSaid : Prop := auditFollowsRow.holds Tryz.pinned (OpenSpec.ofChange auditFollowsSpec)

/-- ITS FALSE NEIGHBOUR: 'it returns false'. Refute it at one input. -/
def auditFollowsWrong : ChangeSpec := { name := "auditFollows", fn := fun _ => fun
  | [d] => { results := [.lit (.bool false)], args := [d] }
  | _ => none }
def AuditFollowsWrongFalsely : Prop := auditFollowsRow.holds Tryz.pinned (OpenSpec.ofChange auditFollowsWrong)

/-- 'posternlaw22.AuditGrows': WHATEVER THE INPUT: true; the input reads as it did. -/
def auditGrowsSpec : ChangeSpec := { name := "auditGrows", fn := fun _ => fun
  | [d] => { results := [.lit (.bool true)], args := [d] }
  | _ => none }
def auditGrowsRow : OpenClaim := { program := "ytecbgdnoblhldaagreatdoor", sum := "4e8ad1f1a7a3358804dd77b94ea86dad957f65ee8e2c8214505f085418f53e16", func := "postern/posternlaw22.AuditGrows", spec := "auditGrows", inPlace := ["internal/bytealg.IndexByteString", "internal/bytealg.IndexString", "(*internal/sync.Mutex).Lock", "internal/race.Disable", "sync/atomic.CompareAndSwapInt32", "internal/race.Enable", "internal/race.Acquire", "(*internal/sync.Mutex).lockSlow", "internal/sync.runtime_canSpin", "internal/sync.runtime_doSpin", "internal/sync.throw", "internal/sync.runtime_nanotime", "internal/sync.runtime_SemacquireMutex", "sync/atomic.AddInt32", "(*internal/sync.Mutex).Unlock", "internal/race.ReleaseMerge", "(*internal/sync.Mutex).unlockSlow", "internal/sync.fatal", "internal/sync.runtime_Semrelease"], unfollowed := true, recurses := true, named := ["unicode/utf8.first", "unicode/utf8.acceptRanges", "postern/record.part", "postern/digest.keys", "internal/bytealg.MaxLen"], apart := false, laid := [("postern/digest.keys", laid_postern_digest_keys), ("unicode/utf8.acceptRanges", laid_unicode_utf8_acceptRanges), ("postern/record.part", laid_postern_record_part), ("unicode/utf8.first", laid_unicode_utf8_first)] }
def AuditGrowsSaid : Prop := auditGrowsRow.holds Tryz.pinned (OpenSpec.ofChange auditGrowsSpec)

/-- ITS FALSE NEIGHBOUR: 'it returns false'. Refute it at one input. -/
def auditGrowsWrong : ChangeSpec := { name := "auditGrows", fn := fun _ => fun
  | [d] => { results := [.lit (.bool false)], args := [d] }
  | _ => none }
def AuditGrowsWrongFalsely : Prop := auditGrowsRow.holds Tryz.pinned (OpenSpec.ofChange auditGrowsWrong)

/-- 'posternlaw22.AuditProves': WHATEVER THE INPUT: true; the input reads as it did. -/
def auditProvesSpec : ChangeSpec := { name := "auditProves", fn := fun _ => fun
  | [d] => { results := [.lit (.bool true)], args := [d] }
  | _ => none }
def auditProvesRow : OpenClaim := { program := "ytecbgdnoblhldaagreatdoor", sum := "4e8ad1f1a7a3358804dd77b94ea86dad957f65ee8e2c8214505f085418f53e16", func := "postern/posternlaw22.AuditProves", spec := "auditProves", inPlace := ["internal/bytealg.IndexByteString", "internal/bytealg.IndexString", "(*internal/sync.Mutex).Lock", "internal/race.Disable", "sync/atomic.CompareAndSwapInt32", "internal/race.Enable", "internal/race.Acquire", "(*internal/sync.Mutex).lockSlow", "internal/sync.runtime_canSpin", "internal/sync.runtime_doSpin", "internal/sync.throw", "internal/sync.runtime_nanotime", "internal/sync.runtime_SemacquireMutex", "sync/atomic.AddInt32", "(*internal/sync.Mutex).Unlock", "internal/race.ReleaseMerge", "(*internal/sync.Mutex).unlockSlow", "internal/sync.fatal", "internal/sync.runtime_Semrelease"], unfollowed := true, recurses := true, named := ["unicode/utf8.first", "unicode/utf8.acceptRanges", "postern/record.part", "postern/digest.keys", "internal/bytealg.MaxLen"], apart := false, laid := [("postern/digest.keys", laid_postern_digest_keys), ("unicode/utf8.acceptRanges", laid_unicode_utf8_acceptRanges), ("postern/record.part", laid_postern_record_part), ("unicode/utf8.first", laid_unicode_utf8_first)] }
def AuditProvesSaid : Prop := auditProvesRow.holds Tryz.pinned (OpenSpec.ofChange auditProvesSpec)

/-- ITS FALSE NEIGHBOUR: 'it returns false'. Refute it at one input. -/
def auditProvesWrong : ChangeSpec := { name := "auditProves", fn := fun _ => fun
  | [d] => { results := [.lit (.bool false)], args := [d] }
  | _ => none }
def AuditProvesWrongFalsely : Prop := auditProvesRow.holds Tryz.pinned (OpenSpec.ofChange auditProvesWrong)

/-- 'posternlaw22.AuditForms': WHATEVER THE INPUT: true; the input reads as it did. -/
def auditFormsSpec : ChangeSpec := { name := "auditForms", fn := fun _ => fun
  | [d] => { results := [.lit (.bool true)], args := [d] }
  | _ => none }
def auditFormsRow : OpenClaim := { program := "ytecbgdnoblhldaagreatdoor", sum := "4e8ad1f1a7a3358804dd77b94ea86dad957f65ee8e2c8214505f085418f53e16", func := "postern/posternlaw22.AuditForms", spec := "auditForms", inPlace := ["internal/bytealg.IndexByteString", "internal/bytealg.IndexString", "(*internal/sync.Mutex).Lock", "internal/race.Disable", "sync/atomic.CompareAndSwapInt32", "internal/race.Enable", "internal/race.Acquire", "(*internal/sync.Mutex).lockSlow", "internal/sync.runtime_canSpin", "internal/sync.runtime_doSpin", "internal/sync.throw", "internal/sync.runtime_nanotime", "internal/sync.runtime_SemacquireMutex", "sync/atomic.AddInt32", "(*internal/sync.Mutex).Unlock", "internal/race.ReleaseMerge", "(*internal/sync.Mutex).unlockSlow", "internal/sync.fatal", "internal/sync.runtime_Semrelease"], unfollowed := true, recurses := true, named := ["postern/digest.keys", "unicode/utf8.first", "unicode/utf8.acceptRanges", "postern/record.part", "internal/bytealg.MaxLen"], apart := false, laid := [("postern/digest.keys", laid_postern_digest_keys), ("unicode/utf8.acceptRanges", laid_unicode_utf8_acceptRanges), ("postern/record.part", laid_postern_record_part), ("unicode/utf8.first", laid_unicode_utf8_first)] }
def AuditFormsSaid : Prop := auditFormsRow.holds Tryz.pinned (OpenSpec.ofChange auditFormsSpec)

/-- ITS FALSE NEIGHBOUR: 'it returns false'. Refute it at one input. -/
def auditFormsWrong : ChangeSpec := { name := "auditForms", fn := fun _ => fun
  | [d] => { results := [.lit (.bool false)], args := [d] }
  | _ => none }
def AuditFormsWrongFalsely : Prop := auditFormsRow.holds Tryz.pinned (OpenSpec.ofChange auditFormsWrong)

/-- 'posternlaw22.AuditStands': WHATEVER THE INPUT: true; the input reads as it did. -/
def auditStandsSpec : ChangeSpec := { name := "auditStands", fn := fun _ => fun
  | [d] => { results := [.lit (.bool true)], args := [d] }
  | _ => none }
def auditStandsRow : OpenClaim := { program := "ytecbgdnoblhldaagreatdoor", sum := "4e8ad1f1a7a3358804dd77b94ea86dad957f65ee8e2c8214505f085418f53e16", func := "postern/posternlaw22.AuditStands", spec := "auditStands", inPlace := ["internal/bytealg.IndexByteString", "internal/bytealg.IndexString", "(*internal/sync.Mutex).Lock", "internal/race.Disable", "sync/atomic.CompareAndSwapInt32", "internal/race.Enable", "internal/race.Acquire", "(*internal/sync.Mutex).lockSlow", "internal/sync.runtime_canSpin", "internal/sync.runtime_doSpin", "internal/sync.throw", "internal/sync.runtime_nanotime", "internal/sync.runtime_SemacquireMutex", "sync/atomic.AddInt32", "(*internal/sync.Mutex).Unlock", "internal/race.ReleaseMerge", "(*internal/sync.Mutex).unlockSlow", "internal/sync.fatal", "internal/sync.runtime_Semrelease"], unfollowed := true, recurses := true, named := ["unicode/utf8.first", "unicode/utf8.acceptRanges", "postern/record.part", "postern/digest.keys", "internal/bytealg.MaxLen"], apart := false, laid := [("postern/digest.keys", laid_postern_digest_keys), ("unicode/utf8.acceptRanges", laid_unicode_utf8_acceptRanges), ("postern/record.part", laid_postern_record_part), ("unicode/utf8.first", laid_unicode_utf8_first)] }
def AuditStandsSaid : Prop := auditStandsRow.holds Tryz.pinned (OpenSpec.ofChange auditStandsSpec)

/-- ITS FALSE NEIGHBOUR: 'it returns false'. Refute it at one input. -/
def auditStandsWrong : ChangeSpec := { name := "auditStands", fn := fun _ => fun
  | [d] => { results := [.lit (.bool false)], args := [d] }
  | _ => none }
def AuditStandsWrongFalsely : Prop := auditStandsRow.holds Tryz.pinned (OpenSpec.ofChange auditStandsWrong)

/-- 'posternlaw22.AuditExact': WHATEVER THE INPUT: true; the input reads as it did. -/
def auditExactSpec : ChangeSpec := { name := "auditExact", fn := fun _ => fun
  | [d] => { results := [.lit (.bool true)], args := [d] }
  | _ => none }
def auditExactRow : OpenClaim := { program := "ytecbgdnoblhldaagreatdoor", sum := "4e8ad1f1a7a3358804dd77b94ea86dad957f65ee8e2c8214505f085418f53e16", func := "postern/posternlaw22.AuditExact", spec := "auditExact", inPlace := ["internal/bytealg.IndexByteString", "internal/bytealg.IndexString", "(*internal/sync.Mutex).Lock", "internal/race.Disable", "sync/atomic.CompareAndSwapInt32", "internal/race.Enable", "internal/race.Acquire", "(*internal/sync.Mutex).lockSlow", "internal/sync.runtime_canSpin", "internal/sync.runtime_doSpin", "internal/sync.throw", "internal/sync.runtime_nanotime", "internal/sync.runtime_SemacquireMutex", "sync/atomic.AddInt32", "(*internal/sync.Mutex).Unlock", "internal/race.ReleaseMerge", "(*internal/sync.Mutex).unlockSlow", "internal/sync.fatal", "internal/sync.runtime_Semrelease"], unfollowed := true, recurses := true, named := ["unicode/utf8.first", "unicode/utf8.acceptRanges", "postern/record.part", "postern/digest.keys", "internal/bytealg.MaxLen"], apart := false, laid := [("postern/digest.keys", laid_postern_digest_keys), ("unicode/utf8.acceptRanges", laid_unicode_utf8_acceptRanges), ("postern/record.part", laid_postern_record_part), ("unicode/utf8.first", laid_unicode_utf8_first)] }
def AuditExactSaid : Prop := auditExactRow.holds Tryz.pinned (OpenSpec.ofChange auditExactSpec)

/-- ITS FALSE NEIGHBOUR: 'it returns false'. Refute it at one input. -/
def auditExactWrong : ChangeSpec := { name := "auditExact", fn := fun _ => fun
  | [d] => { results := [.lit (.bool false)], args := [d] }
  | _ => none }
def AuditExactWrongFalsely : Prop := auditExactRow.holds Tryz.pinned (OpenSpec.ofChange auditExactWrong)

/- THE SECOND FORM. 'bulk': how many values and letters a reading holds, each counted each time it is reached (what is shared counts as often as it is met; a slice's spare places count too). A statement '..UptoSaid' is the law's where the arguments, and the package variables that the reading takes, are together of bulk at most 1048576: NARROWER than '..Said'. Prove '..Said' where nothing that the law and all that it calls make is longer than what came in: it says more and counts as full. Else prove '..UptoSaid'. A law counts once. -/
mutual
def uptoBulk {H : Type} : DataW H → Nat
  | .lit (.string bytes) => bytes.length + 1
  | .lit _ => 1
  | .nil => 1
  | .ptr d => uptoBulk d + 1
  | .slice elems spare => uptoBulkAll elems + uptoBulkAll spare + 1
  | .agg parts => uptoBulkAll parts + 1
  | .iface _ d => uptoBulk d + 1
  | .map entries => uptoBulkEntries entries + 1
  | .held _ => 1
def uptoBulkAll {H : Type} : List (DataW H) → Nat
  | [] => 0
  | d :: r => uptoBulk d + uptoBulkAll r
def uptoBulkEntries {H : Type} : List (Lit × DataW H) → Nat
  | [] => 0
  | x :: r => uptoBulkEntry x + uptoBulkEntries r
def uptoBulkEntry {H : Type} : Lit × DataW H → Nat
  | (.string bytes, d) => bytes.length + uptoBulk d + 1
  | (_, d) => uptoBulk d + 1
 end
def uptoSmall : (H : Type) → List (DataW H) → Bool := fun _ ds => decide (uptoBulkAll ds ≤ 1048576)
def OpenSpec.upto (s : _root_.Go.ChangeSpec) : _root_.Go.OpenSpec := { _root_.Go.OpenSpec.ofChange s with cond := some uptoSmall }

/-- 'posternlaw22.AuditTakes', WHERE WHAT IT READS IS OF BULK AT MOST 1048576: true; the input reads as it did. -/
def auditTakesUptoRow : OpenClaim := { program := "ytecbgdnoblhldaagreatdoor", sum := "4e8ad1f1a7a3358804dd77b94ea86dad957f65ee8e2c8214505f085418f53e16", func := "postern/posternlaw22.AuditTakes", spec := "auditTakes", inPlace := ["internal/bytealg.IndexByteString", "internal/bytealg.IndexString", "(*internal/sync.Mutex).Lock", "internal/race.Disable", "sync/atomic.CompareAndSwapInt32", "internal/race.Enable", "internal/race.Acquire", "(*internal/sync.Mutex).lockSlow", "internal/sync.runtime_canSpin", "internal/sync.runtime_doSpin", "internal/sync.throw", "internal/sync.runtime_nanotime", "internal/sync.runtime_SemacquireMutex", "sync/atomic.AddInt32", "(*internal/sync.Mutex).Unlock", "internal/race.ReleaseMerge", "(*internal/sync.Mutex).unlockSlow", "internal/sync.fatal", "internal/sync.runtime_Semrelease"], unfollowed := true, recurses := true, named := ["postern/digest.keys", "unicode/utf8.first", "unicode/utf8.acceptRanges", "postern/record.part", "internal/bytealg.MaxLen"], apart := false, laid := [("postern/digest.keys", laid_postern_digest_keys), ("unicode/utf8.acceptRanges", laid_unicode_utf8_acceptRanges), ("postern/record.part", laid_postern_record_part), ("unicode/utf8.first", laid_unicode_utf8_first)], narrowed := true }
def AuditTakesUptoSaid : Prop := auditTakesUptoRow.holds Tryz.pinned (OpenSpec.upto auditTakesSpec)

/-- 'posternlaw22.AuditSound', WHERE WHAT IT READS IS OF BULK AT MOST 1048576: true; the input reads as it did. -/
def auditSoundUptoRow : OpenClaim := { program := "ytecbgdnoblhldaagreatdoor", sum := "4e8ad1f1a7a3358804dd77b94ea86dad957f65ee8e2c8214505f085418f53e16", func := "postern/posternlaw22.AuditSound", spec := "auditSound", inPlace := ["internal/bytealg.IndexByteString", "internal/bytealg.IndexString", "(*internal/sync.Mutex).Lock", "internal/race.Disable", "sync/atomic.CompareAndSwapInt32", "internal/race.Enable", "internal/race.Acquire", "(*internal/sync.Mutex).lockSlow", "internal/sync.runtime_canSpin", "internal/sync.runtime_doSpin", "internal/sync.throw", "internal/sync.runtime_nanotime", "internal/sync.runtime_SemacquireMutex", "sync/atomic.AddInt32", "(*internal/sync.Mutex).Unlock", "internal/race.ReleaseMerge", "(*internal/sync.Mutex).unlockSlow", "internal/sync.fatal", "internal/sync.runtime_Semrelease"], unfollowed := true, recurses := true, named := ["unicode/utf8.first", "unicode/utf8.acceptRanges", "postern/record.part", "postern/digest.keys", "internal/bytealg.MaxLen"], apart := false, laid := [("postern/digest.keys", laid_postern_digest_keys), ("unicode/utf8.acceptRanges", laid_unicode_utf8_acceptRanges), ("postern/record.part", laid_postern_record_part), ("unicode/utf8.first", laid_unicode_utf8_first)], narrowed := true }
def AuditSoundUptoSaid : Prop := auditSoundUptoRow.holds Tryz.pinned (OpenSpec.upto auditSoundSpec)

/-- 'posternlaw22.AuditFollows', WHERE WHAT IT READS IS OF BULK AT MOST 1048576: true; the input reads as it did. -/
def auditFollowsUptoRow : OpenClaim := { program := "ytecbgdnoblhldaagreatdoor", sum := "4e8ad1f1a7a3358804dd77b94ea86dad957f65ee8e2c8214505f085418f53e16", func := "postern/posternlaw22.AuditFollows", spec := "auditFollows", inPlace := ["internal/bytealg.IndexByteString", "internal/bytealg.IndexString", "(*internal/sync.Mutex).Lock", "internal/race.Disable", "sync/atomic.CompareAndSwapInt32", "internal/race.Enable", "internal/race.Acquire", "(*internal/sync.Mutex).lockSlow", "internal/sync.runtime_canSpin", "internal/sync.runtime_doSpin", "internal/sync.throw", "internal/sync.runtime_nanotime", "internal/sync.runtime_SemacquireMutex", "sync/atomic.AddInt32", "(*internal/sync.Mutex).Unlock", "internal/race.ReleaseMerge", "(*internal/sync.Mutex).unlockSlow", "internal/sync.fatal", "internal/sync.runtime_Semrelease"], unfollowed := true, recurses := true, named := ["unicode/utf8.first", "unicode/utf8.acceptRanges", "postern/record.part", "postern/digest.keys", "internal/bytealg.MaxLen"], apart := false, laid := [("postern/digest.keys", laid_postern_digest_keys), ("unicode/utf8.acceptRanges", laid_unicode_utf8_acceptRanges), ("postern/record.part", laid_postern_record_part), ("unicode/utf8.first", laid_unicode_utf8_first)], narrowed := true }
def AuditFollowsUptoSaid : Prop := auditFollowsUptoRow.holds Tryz.pinned (OpenSpec.upto auditFollowsSpec)

/-- 'posternlaw22.AuditGrows', WHERE WHAT IT READS IS OF BULK AT MOST 1048576: true; the input reads as it did. -/
def auditGrowsUptoRow : OpenClaim := { program := "ytecbgdnoblhldaagreatdoor", sum := "4e8ad1f1a7a3358804dd77b94ea86dad957f65ee8e2c8214505f085418f53e16", func := "postern/posternlaw22.AuditGrows", spec := "auditGrows", inPlace := ["internal/bytealg.IndexByteString", "internal/bytealg.IndexString", "(*internal/sync.Mutex).Lock", "internal/race.Disable", "sync/atomic.CompareAndSwapInt32", "internal/race.Enable", "internal/race.Acquire", "(*internal/sync.Mutex).lockSlow", "internal/sync.runtime_canSpin", "internal/sync.runtime_doSpin", "internal/sync.throw", "internal/sync.runtime_nanotime", "internal/sync.runtime_SemacquireMutex", "sync/atomic.AddInt32", "(*internal/sync.Mutex).Unlock", "internal/race.ReleaseMerge", "(*internal/sync.Mutex).unlockSlow", "internal/sync.fatal", "internal/sync.runtime_Semrelease"], unfollowed := true, recurses := true, named := ["unicode/utf8.first", "unicode/utf8.acceptRanges", "postern/record.part", "postern/digest.keys", "internal/bytealg.MaxLen"], apart := false, laid := [("postern/digest.keys", laid_postern_digest_keys), ("unicode/utf8.acceptRanges", laid_unicode_utf8_acceptRanges), ("postern/record.part", laid_postern_record_part), ("unicode/utf8.first", laid_unicode_utf8_first)], narrowed := true }
def AuditGrowsUptoSaid : Prop := auditGrowsUptoRow.holds Tryz.pinned (OpenSpec.upto auditGrowsSpec)

/-- 'posternlaw22.AuditProves', WHERE WHAT IT READS IS OF BULK AT MOST 1048576: true; the input reads as it did. -/
def auditProvesUptoRow : OpenClaim := { program := "ytecbgdnoblhldaagreatdoor", sum := "4e8ad1f1a7a3358804dd77b94ea86dad957f65ee8e2c8214505f085418f53e16", func := "postern/posternlaw22.AuditProves", spec := "auditProves", inPlace := ["internal/bytealg.IndexByteString", "internal/bytealg.IndexString", "(*internal/sync.Mutex).Lock", "internal/race.Disable", "sync/atomic.CompareAndSwapInt32", "internal/race.Enable", "internal/race.Acquire", "(*internal/sync.Mutex).lockSlow", "internal/sync.runtime_canSpin", "internal/sync.runtime_doSpin", "internal/sync.throw", "internal/sync.runtime_nanotime", "internal/sync.runtime_SemacquireMutex", "sync/atomic.AddInt32", "(*internal/sync.Mutex).Unlock", "internal/race.ReleaseMerge", "(*internal/sync.Mutex).unlockSlow", "internal/sync.fatal", "internal/sync.runtime_Semrelease"], unfollowed := true, recurses := true, named := ["unicode/utf8.first", "unicode/utf8.acceptRanges", "postern/record.part", "postern/digest.keys", "internal/bytealg.MaxLen"], apart := false, laid := [("postern/digest.keys", laid_postern_digest_keys), ("unicode/utf8.acceptRanges", laid_unicode_utf8_acceptRanges), ("postern/record.part", laid_postern_record_part), ("unicode/utf8.first", laid_unicode_utf8_first)], narrowed := true }
def AuditProvesUptoSaid : Prop := auditProvesUptoRow.holds Tryz.pinned (OpenSpec.upto auditProvesSpec)

/-- 'posternlaw22.AuditForms', WHERE WHAT IT READS IS OF BULK AT MOST 1048576: true; the input reads as it did. -/
def auditFormsUptoRow : OpenClaim := { program := "ytecbgdnoblhldaagreatdoor", sum := "4e8ad1f1a7a3358804dd77b94ea86dad957f65ee8e2c8214505f085418f53e16", func := "postern/posternlaw22.AuditForms", spec := "auditForms", inPlace := ["internal/bytealg.IndexByteString", "internal/bytealg.IndexString", "(*internal/sync.Mutex).Lock", "internal/race.Disable", "sync/atomic.CompareAndSwapInt32", "internal/race.Enable", "internal/race.Acquire", "(*internal/sync.Mutex).lockSlow", "internal/sync.runtime_canSpin", "internal/sync.runtime_doSpin", "internal/sync.throw", "internal/sync.runtime_nanotime", "internal/sync.runtime_SemacquireMutex", "sync/atomic.AddInt32", "(*internal/sync.Mutex).Unlock", "internal/race.ReleaseMerge", "(*internal/sync.Mutex).unlockSlow", "internal/sync.fatal", "internal/sync.runtime_Semrelease"], unfollowed := true, recurses := true, named := ["postern/digest.keys", "unicode/utf8.first", "unicode/utf8.acceptRanges", "postern/record.part", "internal/bytealg.MaxLen"], apart := false, laid := [("postern/digest.keys", laid_postern_digest_keys), ("unicode/utf8.acceptRanges", laid_unicode_utf8_acceptRanges), ("postern/record.part", laid_postern_record_part), ("unicode/utf8.first", laid_unicode_utf8_first)], narrowed := true }
def AuditFormsUptoSaid : Prop := auditFormsUptoRow.holds Tryz.pinned (OpenSpec.upto auditFormsSpec)

/-- 'posternlaw22.AuditStands', WHERE WHAT IT READS IS OF BULK AT MOST 1048576: true; the input reads as it did. -/
def auditStandsUptoRow : OpenClaim := { program := "ytecbgdnoblhldaagreatdoor", sum := "4e8ad1f1a7a3358804dd77b94ea86dad957f65ee8e2c8214505f085418f53e16", func := "postern/posternlaw22.AuditStands", spec := "auditStands", inPlace := ["internal/bytealg.IndexByteString", "internal/bytealg.IndexString", "(*internal/sync.Mutex).Lock", "internal/race.Disable", "sync/atomic.CompareAndSwapInt32", "internal/race.Enable", "internal/race.Acquire", "(*internal/sync.Mutex).lockSlow", "internal/sync.runtime_canSpin", "internal/sync.runtime_doSpin", "internal/sync.throw", "internal/sync.runtime_nanotime", "internal/sync.runtime_SemacquireMutex", "sync/atomic.AddInt32", "(*internal/sync.Mutex).Unlock", "internal/race.ReleaseMerge", "(*internal/sync.Mutex).unlockSlow", "internal/sync.fatal", "internal/sync.runtime_Semrelease"], unfollowed := true, recurses := true, named := ["unicode/utf8.first", "unicode/utf8.acceptRanges", "postern/record.part", "postern/digest.keys", "internal/bytealg.MaxLen"], apart := false, laid := [("postern/digest.keys", laid_postern_digest_keys), ("unicode/utf8.acceptRanges", laid_unicode_utf8_acceptRanges), ("postern/record.part", laid_postern_record_part), ("unicode/utf8.first", laid_unicode_utf8_first)], narrowed := true }
def AuditStandsUptoSaid : Prop := auditStandsUptoRow.holds Tryz.pinned (OpenSpec.upto auditStandsSpec)

/-- 'posternlaw22.AuditExact', WHERE WHAT IT READS IS OF BULK AT MOST 1048576: true; the input reads as it did. -/
def auditExactUptoRow : OpenClaim := { program := "ytecbgdnoblhldaagreatdoor", sum := "4e8ad1f1a7a3358804dd77b94ea86dad957f65ee8e2c8214505f085418f53e16", func := "postern/posternlaw22.AuditExact", spec := "auditExact", inPlace := ["internal/bytealg.IndexByteString", "internal/bytealg.IndexString", "(*internal/sync.Mutex).Lock", "internal/race.Disable", "sync/atomic.CompareAndSwapInt32", "internal/race.Enable", "internal/race.Acquire", "(*internal/sync.Mutex).lockSlow", "internal/sync.runtime_canSpin", "internal/sync.runtime_doSpin", "internal/sync.throw", "internal/sync.runtime_nanotime", "internal/sync.runtime_SemacquireMutex", "sync/atomic.AddInt32", "(*internal/sync.Mutex).Unlock", "internal/race.ReleaseMerge", "(*internal/sync.Mutex).unlockSlow", "internal/sync.fatal", "internal/sync.runtime_Semrelease"], unfollowed := true, recurses := true, named := ["unicode/utf8.first", "unicode/utf8.acceptRanges", "postern/record.part", "postern/digest.keys", "internal/bytealg.MaxLen"], apart := false, laid := [("postern/digest.keys", laid_postern_digest_keys), ("unicode/utf8.acceptRanges", laid_unicode_utf8_acceptRanges), ("postern/record.part", laid_postern_record_part), ("unicode/utf8.first", laid_unicode_utf8_first)], narrowed := true }
def AuditExactUptoSaid : Prop := auditExactUptoRow.holds Tryz.pinned (OpenSpec.upto auditExactSpec)

end Rows
end Go.Proofs.YtecbgdnoblhldaaGreatDoor
