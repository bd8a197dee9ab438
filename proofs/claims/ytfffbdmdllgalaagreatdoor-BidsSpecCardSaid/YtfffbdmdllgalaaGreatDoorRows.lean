/-
  NARROWER THAN 'FOR EVERY INPUT', by the rows' own cells (each row's printed sentence says how): BidsSpec: laid · BidsValueSpec: laid · BidsSubstitutes: laid · BidsSum: laid · BidsCounts: laid · BidsLess: laid · TopAuction: laid · ResaleSpec: laid · ResaleGain: laid · ResaleTwice: laid · ResaleSame: laid · ResaleLess: laid · AllocateSpec: laid · AllocateBoundSpec: laid · AllocateBounded: laid · AllocateMore: laid · AllocateBest: laid · AllocateOne: laid · PaymentsSpec: laid · PaymentsGainSpec: laid · PaymentsTruth: laid · PaymentsEffect: laid · PaymentsAlone: laid · ResaleAuction: laid.
  DERIVED. THE GIVEN ROWS OF THIS SEAT. 24 by the template 'for every input the law returns true; each argument reads behind the call as it read before'; 0 by the template 'total and deterministic' (their statements: YtfffbdmdllgalaaGreatDoorTotals.lean).
  GIVEN WITH THE SEED: the statements are not yours to turn. If you find one false, say at which input.
  Laid BY PROGRAM, IN A SANDBOX (cutbox-rows.mjs): the forced cells as the released guide's own fill.sh prints them over the translation d9b32f272c87d4e7… (all of the seat's roots in one cut). By AI agents, Wed Nov 11 2026. No macro, syntax, notation, axiom, sorry.
-/
import Derived.Test.YtfffbdmdllgalaaGreatDoorChecked
import GoSem.Claim
import GoSem.ClaimJoined
import GoSem.ClaimMapViews
import Derived.JoinedTies
import Derived.KernelRfl
namespace Go.Proofs.YtfffbdmdllgalaaGreatDoor
/- THE CELL 'sum', in the pinned program and in every row, IS THE sha256 OF THE DUMP (.gsa) THAT YtfffbdmdllgalaaGreatDoorProg.lean LOADS. Nothing in Lean hashes anything: it is a label: what it is worth is what the hold of that sum in a sandbox is worth. -/
noncomputable def Tryz.pinned : Pinned := { name := "ytfffbdmdllgalaagreatdoor", sum := "d9b32f272c87d4e7738a557159610482502c4997c30408b811c556d54ddc0107", checked := Tryz.checked }
namespace Rows
def none {H : Type} : Left H := { results := [], args := [] }

/- WHAT THE LISTED PACKAGE-LEVEL VARIABLES READ AS WHEN THE CALL BEGINS. Each datum BY PROGRAM (the guide's laid-datum.mjs) off the statement by which the dump's own 'gosem.cut.vars' lays the variable. In a bare row this is a premise. The card (YtfffbdmdllgalaaGreatDoorCards.lean) ties it to the program's text. -/
def laid_fasti_days_lengths {H : Type} : DataW H := .agg [.lit (.int .i64 31), .lit (.int .i64 29), .lit (.int .i64 31), .lit (.int .i64 30), .lit (.int .i64 31), .lit (.int .i64 30), .lit (.int .i64 31), .lit (.int .i64 31), .lit (.int .i64 30), .lit (.int .i64 31), .lit (.int .i64 30), .lit (.int .i64 31)]

/-- 'fastilaw42.BidsSpec': WHATEVER THE INPUT: true; the input reads as it did. -/
def bidsSpecSpec : ChangeSpec := { name := "bidsSpec", fn := fun _ => fun
  | [d1, d2, d3, d4, d5] => { results := [.lit (.bool true)], args := [d1, d2, d3, d4, d5] }
  | _ => none }
def bidsSpecRow : OpenClaim := { program := "ytfffbdmdllgalaagreatdoor", sum := "d9b32f272c87d4e7738a557159610482502c4997c30408b811c556d54ddc0107", func := "fasti/fastilaw42.BidsSpec", spec := "bidsSpec", inPlace := ["internal/bytealg.IndexByteString", "internal/bytealg.IndexString"], unfollowed := true, recurses := true, named := ["internal/bytealg.MaxLen", "fasti/days.lengths"], apart := false, laid := [("fasti/days.lengths", laid_fasti_days_lengths)] }
def BidsSpecSaid : Prop := bidsSpecRow.holds Tryz.pinned (OpenSpec.ofChange bidsSpecSpec)

/-- ITS FALSE NEIGHBOUR: 'it returns false'. Refute it at one input. -/
def bidsSpecWrong : ChangeSpec := { name := "bidsSpec", fn := fun _ => fun
  | [d1, d2, d3, d4, d5] => { results := [.lit (.bool false)], args := [d1, d2, d3, d4, d5] }
  | _ => none }
def BidsSpecWrongFalsely : Prop := bidsSpecRow.holds Tryz.pinned (OpenSpec.ofChange bidsSpecWrong)

/-- 'fastilaw42.BidsValueSpec': WHATEVER THE INPUT: true; the input reads as it did. -/
def bidsValueSpecSpec : ChangeSpec := { name := "bidsValueSpec", fn := fun _ => fun
  | [d1, d2, d3, d4, d5, d6] => { results := [.lit (.bool true)], args := [d1, d2, d3, d4, d5, d6] }
  | _ => none }
def bidsValueSpecRow : OpenClaim := { program := "ytfffbdmdllgalaagreatdoor", sum := "d9b32f272c87d4e7738a557159610482502c4997c30408b811c556d54ddc0107", func := "fasti/fastilaw42.BidsValueSpec", spec := "bidsValueSpec", inPlace := ["internal/bytealg.IndexByteString", "internal/bytealg.IndexString"], unfollowed := true, recurses := true, named := ["internal/bytealg.MaxLen", "fasti/days.lengths"], apart := false, laid := [("fasti/days.lengths", laid_fasti_days_lengths)] }
def BidsValueSpecSaid : Prop := bidsValueSpecRow.holds Tryz.pinned (OpenSpec.ofChange bidsValueSpecSpec)

/-- ITS FALSE NEIGHBOUR: 'it returns false'. Refute it at one input. -/
def bidsValueSpecWrong : ChangeSpec := { name := "bidsValueSpec", fn := fun _ => fun
  | [d1, d2, d3, d4, d5, d6] => { results := [.lit (.bool false)], args := [d1, d2, d3, d4, d5, d6] }
  | _ => none }
def BidsValueSpecWrongFalsely : Prop := bidsValueSpecRow.holds Tryz.pinned (OpenSpec.ofChange bidsValueSpecWrong)

/-- 'fastilaw42.BidsSubstitutes': WHATEVER THE INPUT: true; the input reads as it did. -/
def bidsSubstitutesSpec : ChangeSpec := { name := "bidsSubstitutes", fn := fun _ => fun
  | [d1, d2, d3, d4, d5, d6, d7, d8] => { results := [.lit (.bool true)], args := [d1, d2, d3, d4, d5, d6, d7, d8] }
  | _ => none }
def bidsSubstitutesRow : OpenClaim := { program := "ytfffbdmdllgalaagreatdoor", sum := "d9b32f272c87d4e7738a557159610482502c4997c30408b811c556d54ddc0107", func := "fasti/fastilaw42.BidsSubstitutes", spec := "bidsSubstitutes", inPlace := ["internal/bytealg.IndexByteString", "internal/bytealg.IndexString"], unfollowed := true, recurses := true, named := ["internal/bytealg.MaxLen", "fasti/days.lengths"], apart := false, laid := [("fasti/days.lengths", laid_fasti_days_lengths)] }
def BidsSubstitutesSaid : Prop := bidsSubstitutesRow.holds Tryz.pinned (OpenSpec.ofChange bidsSubstitutesSpec)

/-- ITS FALSE NEIGHBOUR: 'it returns false'. Refute it at one input. -/
def bidsSubstitutesWrong : ChangeSpec := { name := "bidsSubstitutes", fn := fun _ => fun
  | [d1, d2, d3, d4, d5, d6, d7, d8] => { results := [.lit (.bool false)], args := [d1, d2, d3, d4, d5, d6, d7, d8] }
  | _ => none }
def BidsSubstitutesWrongFalsely : Prop := bidsSubstitutesRow.holds Tryz.pinned (OpenSpec.ofChange bidsSubstitutesWrong)

/-- 'fastilaw42.BidsSum': WHATEVER THE INPUT: true; the input reads as it did. -/
def bidsSumSpec : ChangeSpec := { name := "bidsSum", fn := fun _ => fun
  | [d1, d2, d3, d4, d5, d6] => { results := [.lit (.bool true)], args := [d1, d2, d3, d4, d5, d6] }
  | _ => none }
def bidsSumRow : OpenClaim := { program := "ytfffbdmdllgalaagreatdoor", sum := "d9b32f272c87d4e7738a557159610482502c4997c30408b811c556d54ddc0107", func := "fasti/fastilaw42.BidsSum", spec := "bidsSum", inPlace := ["internal/bytealg.IndexByteString", "internal/bytealg.IndexString"], unfollowed := true, recurses := true, named := ["internal/bytealg.MaxLen", "fasti/days.lengths"], apart := false, laid := [("fasti/days.lengths", laid_fasti_days_lengths)] }
def BidsSumSaid : Prop := bidsSumRow.holds Tryz.pinned (OpenSpec.ofChange bidsSumSpec)

/-- ITS FALSE NEIGHBOUR: 'it returns false'. Refute it at one input. -/
def bidsSumWrong : ChangeSpec := { name := "bidsSum", fn := fun _ => fun
  | [d1, d2, d3, d4, d5, d6] => { results := [.lit (.bool false)], args := [d1, d2, d3, d4, d5, d6] }
  | _ => none }
def BidsSumWrongFalsely : Prop := bidsSumRow.holds Tryz.pinned (OpenSpec.ofChange bidsSumWrong)

/-- 'fastilaw42.BidsCounts': WHATEVER THE INPUT: true; the input reads as it did. -/
def bidsCountsSpec : ChangeSpec := { name := "bidsCounts", fn := fun _ => fun
  | [d1, d2, d3, d4, d5, d6] => { results := [.lit (.bool true)], args := [d1, d2, d3, d4, d5, d6] }
  | _ => none }
def bidsCountsRow : OpenClaim := { program := "ytfffbdmdllgalaagreatdoor", sum := "d9b32f272c87d4e7738a557159610482502c4997c30408b811c556d54ddc0107", func := "fasti/fastilaw42.BidsCounts", spec := "bidsCounts", inPlace := ["internal/bytealg.IndexByteString", "internal/bytealg.IndexString"], unfollowed := true, recurses := true, named := ["internal/bytealg.MaxLen", "fasti/days.lengths"], apart := false, laid := [("fasti/days.lengths", laid_fasti_days_lengths)] }
def BidsCountsSaid : Prop := bidsCountsRow.holds Tryz.pinned (OpenSpec.ofChange bidsCountsSpec)

/-- ITS FALSE NEIGHBOUR: 'it returns false'. Refute it at one input. -/
def bidsCountsWrong : ChangeSpec := { name := "bidsCounts", fn := fun _ => fun
  | [d1, d2, d3, d4, d5, d6] => { results := [.lit (.bool false)], args := [d1, d2, d3, d4, d5, d6] }
  | _ => none }
def BidsCountsWrongFalsely : Prop := bidsCountsRow.holds Tryz.pinned (OpenSpec.ofChange bidsCountsWrong)

/-- 'fastilaw42.BidsLess': WHATEVER THE INPUT: true; the input reads as it did. -/
def bidsLessSpec : ChangeSpec := { name := "bidsLess", fn := fun _ => fun
  | [d1, d2, d3, d4, d5, d6, d7, d8] => { results := [.lit (.bool true)], args := [d1, d2, d3, d4, d5, d6, d7, d8] }
  | _ => none }
def bidsLessRow : OpenClaim := { program := "ytfffbdmdllgalaagreatdoor", sum := "d9b32f272c87d4e7738a557159610482502c4997c30408b811c556d54ddc0107", func := "fasti/fastilaw42.BidsLess", spec := "bidsLess", inPlace := ["internal/bytealg.IndexByteString", "internal/bytealg.IndexString"], unfollowed := true, recurses := true, named := ["internal/bytealg.MaxLen", "fasti/days.lengths"], apart := false, laid := [("fasti/days.lengths", laid_fasti_days_lengths)] }
def BidsLessSaid : Prop := bidsLessRow.holds Tryz.pinned (OpenSpec.ofChange bidsLessSpec)

/-- ITS FALSE NEIGHBOUR: 'it returns false'. Refute it at one input. -/
def bidsLessWrong : ChangeSpec := { name := "bidsLess", fn := fun _ => fun
  | [d1, d2, d3, d4, d5, d6, d7, d8] => { results := [.lit (.bool false)], args := [d1, d2, d3, d4, d5, d6, d7, d8] }
  | _ => none }
def BidsLessWrongFalsely : Prop := bidsLessRow.holds Tryz.pinned (OpenSpec.ofChange bidsLessWrong)

/-- 'fastitop.TopAuction': WHATEVER THE INPUT: true; the input reads as it did. -/
def topAuctionSpec : ChangeSpec := { name := "topAuction", fn := fun _ => fun
  | [d1, d2, d3, d4, d5, d6, d7, d8] => { results := [.lit (.bool true)], args := [d1, d2, d3, d4, d5, d6, d7, d8] }
  | _ => none }
def topAuctionRow : OpenClaim := { program := "ytfffbdmdllgalaagreatdoor", sum := "d9b32f272c87d4e7738a557159610482502c4997c30408b811c556d54ddc0107", func := "fasti/fastitop.TopAuction", spec := "topAuction", inPlace := ["internal/bytealg.IndexByteString", "internal/bytealg.IndexString"], unfollowed := true, recurses := true, named := ["internal/bytealg.MaxLen", "fasti/days.lengths"], apart := false, laid := [("fasti/days.lengths", laid_fasti_days_lengths)] }
def TopAuctionSaid : Prop := topAuctionRow.holds Tryz.pinned (OpenSpec.ofChange topAuctionSpec)

/-- ITS FALSE NEIGHBOUR: 'it returns false'. Refute it at one input. -/
def topAuctionWrong : ChangeSpec := { name := "topAuction", fn := fun _ => fun
  | [d1, d2, d3, d4, d5, d6, d7, d8] => { results := [.lit (.bool false)], args := [d1, d2, d3, d4, d5, d6, d7, d8] }
  | _ => none }
def TopAuctionWrongFalsely : Prop := topAuctionRow.holds Tryz.pinned (OpenSpec.ofChange topAuctionWrong)

/-- 'fastilaw45.ResaleSpec': WHATEVER THE INPUT: true; the input reads as it did. -/
def resaleSpecSpec : ChangeSpec := { name := "resaleSpec", fn := fun _ => fun
  | [d] => { results := [.lit (.bool true)], args := [d] }
  | _ => none }
def resaleSpecRow : OpenClaim := { program := "ytfffbdmdllgalaagreatdoor", sum := "d9b32f272c87d4e7738a557159610482502c4997c30408b811c556d54ddc0107", func := "fasti/fastilaw45.ResaleSpec", spec := "resaleSpec", inPlace := ["internal/bytealg.IndexByteString", "internal/bytealg.IndexString"], unfollowed := true, recurses := true, named := ["internal/bytealg.MaxLen", "fasti/days.lengths"], apart := false, laid := [("fasti/days.lengths", laid_fasti_days_lengths)] }
def ResaleSpecSaid : Prop := resaleSpecRow.holds Tryz.pinned (OpenSpec.ofChange resaleSpecSpec)

/-- ITS FALSE NEIGHBOUR: 'it returns false'. Refute it at one input. -/
def resaleSpecWrong : ChangeSpec := { name := "resaleSpec", fn := fun _ => fun
  | [d] => { results := [.lit (.bool false)], args := [d] }
  | _ => none }
def ResaleSpecWrongFalsely : Prop := resaleSpecRow.holds Tryz.pinned (OpenSpec.ofChange resaleSpecWrong)

/-- 'fastilaw45.ResaleGain': WHATEVER THE INPUT: true; the input reads as it did. -/
def resaleGainSpec : ChangeSpec := { name := "resaleGain", fn := fun _ => fun
  | [d] => { results := [.lit (.bool true)], args := [d] }
  | _ => none }
def resaleGainRow : OpenClaim := { program := "ytfffbdmdllgalaagreatdoor", sum := "d9b32f272c87d4e7738a557159610482502c4997c30408b811c556d54ddc0107", func := "fasti/fastilaw45.ResaleGain", spec := "resaleGain", inPlace := ["internal/bytealg.IndexByteString", "internal/bytealg.IndexString"], unfollowed := true, recurses := true, named := ["internal/bytealg.MaxLen", "fasti/days.lengths"], apart := false, laid := [("fasti/days.lengths", laid_fasti_days_lengths)] }
def ResaleGainSaid : Prop := resaleGainRow.holds Tryz.pinned (OpenSpec.ofChange resaleGainSpec)

/-- ITS FALSE NEIGHBOUR: 'it returns false'. Refute it at one input. -/
def resaleGainWrong : ChangeSpec := { name := "resaleGain", fn := fun _ => fun
  | [d] => { results := [.lit (.bool false)], args := [d] }
  | _ => none }
def ResaleGainWrongFalsely : Prop := resaleGainRow.holds Tryz.pinned (OpenSpec.ofChange resaleGainWrong)

/-- 'fastilaw45.ResaleTwice': WHATEVER THE INPUT: true; the input reads as it did. -/
def resaleTwiceSpec : ChangeSpec := { name := "resaleTwice", fn := fun _ => fun
  | [d] => { results := [.lit (.bool true)], args := [d] }
  | _ => none }
def resaleTwiceRow : OpenClaim := { program := "ytfffbdmdllgalaagreatdoor", sum := "d9b32f272c87d4e7738a557159610482502c4997c30408b811c556d54ddc0107", func := "fasti/fastilaw45.ResaleTwice", spec := "resaleTwice", inPlace := ["internal/bytealg.IndexByteString", "internal/bytealg.IndexString"], unfollowed := true, recurses := true, named := ["internal/bytealg.MaxLen", "fasti/days.lengths"], apart := false, laid := [("fasti/days.lengths", laid_fasti_days_lengths)] }
def ResaleTwiceSaid : Prop := resaleTwiceRow.holds Tryz.pinned (OpenSpec.ofChange resaleTwiceSpec)

/-- ITS FALSE NEIGHBOUR: 'it returns false'. Refute it at one input. -/
def resaleTwiceWrong : ChangeSpec := { name := "resaleTwice", fn := fun _ => fun
  | [d] => { results := [.lit (.bool false)], args := [d] }
  | _ => none }
def ResaleTwiceWrongFalsely : Prop := resaleTwiceRow.holds Tryz.pinned (OpenSpec.ofChange resaleTwiceWrong)

/-- 'fastilaw45.ResaleSame': WHATEVER THE INPUT: true; the input reads as it did. -/
def resaleSameSpec : ChangeSpec := { name := "resaleSame", fn := fun _ => fun
  | [d1, d2, d3] => { results := [.lit (.bool true)], args := [d1, d2, d3] }
  | _ => none }
def resaleSameRow : OpenClaim := { program := "ytfffbdmdllgalaagreatdoor", sum := "d9b32f272c87d4e7738a557159610482502c4997c30408b811c556d54ddc0107", func := "fasti/fastilaw45.ResaleSame", spec := "resaleSame", inPlace := ["internal/bytealg.IndexByteString", "internal/bytealg.IndexString"], unfollowed := true, recurses := true, named := ["internal/bytealg.MaxLen", "fasti/days.lengths"], apart := false, laid := [("fasti/days.lengths", laid_fasti_days_lengths)] }
def ResaleSameSaid : Prop := resaleSameRow.holds Tryz.pinned (OpenSpec.ofChange resaleSameSpec)

/-- ITS FALSE NEIGHBOUR: 'it returns false'. Refute it at one input. -/
def resaleSameWrong : ChangeSpec := { name := "resaleSame", fn := fun _ => fun
  | [d1, d2, d3] => { results := [.lit (.bool false)], args := [d1, d2, d3] }
  | _ => none }
def ResaleSameWrongFalsely : Prop := resaleSameRow.holds Tryz.pinned (OpenSpec.ofChange resaleSameWrong)

/-- 'fastilaw45.ResaleLess': WHATEVER THE INPUT: true; the input reads as it did. -/
def resaleLessSpec : ChangeSpec := { name := "resaleLess", fn := fun _ => fun
  | [d1, d2] => { results := [.lit (.bool true)], args := [d1, d2] }
  | _ => none }
def resaleLessRow : OpenClaim := { program := "ytfffbdmdllgalaagreatdoor", sum := "d9b32f272c87d4e7738a557159610482502c4997c30408b811c556d54ddc0107", func := "fasti/fastilaw45.ResaleLess", spec := "resaleLess", inPlace := ["internal/bytealg.IndexByteString", "internal/bytealg.IndexString"], unfollowed := true, recurses := true, named := ["internal/bytealg.MaxLen", "fasti/days.lengths"], apart := false, laid := [("fasti/days.lengths", laid_fasti_days_lengths)] }
def ResaleLessSaid : Prop := resaleLessRow.holds Tryz.pinned (OpenSpec.ofChange resaleLessSpec)

/-- ITS FALSE NEIGHBOUR: 'it returns false'. Refute it at one input. -/
def resaleLessWrong : ChangeSpec := { name := "resaleLess", fn := fun _ => fun
  | [d1, d2] => { results := [.lit (.bool false)], args := [d1, d2] }
  | _ => none }
def ResaleLessWrongFalsely : Prop := resaleLessRow.holds Tryz.pinned (OpenSpec.ofChange resaleLessWrong)

/-- 'fastilaw43.AllocateSpec': WHATEVER THE INPUT: true; the input reads as it did. -/
def allocateSpecSpec : ChangeSpec := { name := "allocateSpec", fn := fun _ => fun
  | [d1, d2, d3, d4, d5] => { results := [.lit (.bool true)], args := [d1, d2, d3, d4, d5] }
  | _ => none }
def allocateSpecRow : OpenClaim := { program := "ytfffbdmdllgalaagreatdoor", sum := "d9b32f272c87d4e7738a557159610482502c4997c30408b811c556d54ddc0107", func := "fasti/fastilaw43.AllocateSpec", spec := "allocateSpec", inPlace := ["internal/bytealg.IndexByteString", "internal/bytealg.IndexString"], unfollowed := true, recurses := true, named := ["internal/bytealg.MaxLen", "fasti/days.lengths"], apart := false, laid := [("fasti/days.lengths", laid_fasti_days_lengths)] }
def AllocateSpecSaid : Prop := allocateSpecRow.holds Tryz.pinned (OpenSpec.ofChange allocateSpecSpec)

/-- ITS FALSE NEIGHBOUR: 'it returns false'. Refute it at one input. -/
def allocateSpecWrong : ChangeSpec := { name := "allocateSpec", fn := fun _ => fun
  | [d1, d2, d3, d4, d5] => { results := [.lit (.bool false)], args := [d1, d2, d3, d4, d5] }
  | _ => none }
def AllocateSpecWrongFalsely : Prop := allocateSpecRow.holds Tryz.pinned (OpenSpec.ofChange allocateSpecWrong)

/-- 'fastilaw43.AllocateBoundSpec': WHATEVER THE INPUT: true; the input reads as it did. -/
def allocateBoundSpecSpec : ChangeSpec := { name := "allocateBoundSpec", fn := fun _ => fun
  | [d1, d2, d3, d4, d5] => { results := [.lit (.bool true)], args := [d1, d2, d3, d4, d5] }
  | _ => none }
def allocateBoundSpecRow : OpenClaim := { program := "ytfffbdmdllgalaagreatdoor", sum := "d9b32f272c87d4e7738a557159610482502c4997c30408b811c556d54ddc0107", func := "fasti/fastilaw43.AllocateBoundSpec", spec := "allocateBoundSpec", inPlace := ["internal/bytealg.IndexByteString", "internal/bytealg.IndexString"], unfollowed := true, recurses := true, named := ["internal/bytealg.MaxLen", "fasti/days.lengths"], apart := false, laid := [("fasti/days.lengths", laid_fasti_days_lengths)] }
def AllocateBoundSpecSaid : Prop := allocateBoundSpecRow.holds Tryz.pinned (OpenSpec.ofChange allocateBoundSpecSpec)

/-- ITS FALSE NEIGHBOUR: 'it returns false'. Refute it at one input. -/
def allocateBoundSpecWrong : ChangeSpec := { name := "allocateBoundSpec", fn := fun _ => fun
  | [d1, d2, d3, d4, d5] => { results := [.lit (.bool false)], args := [d1, d2, d3, d4, d5] }
  | _ => none }
def AllocateBoundSpecWrongFalsely : Prop := allocateBoundSpecRow.holds Tryz.pinned (OpenSpec.ofChange allocateBoundSpecWrong)

/-- 'fastilaw43.AllocateBounded': WHATEVER THE INPUT: true; the input reads as it did. -/
def allocateBoundedSpec : ChangeSpec := { name := "allocateBounded", fn := fun _ => fun
  | [d1, d2, d3, d4, d5, d6] => { results := [.lit (.bool true)], args := [d1, d2, d3, d4, d5, d6] }
  | _ => none }
def allocateBoundedRow : OpenClaim := { program := "ytfffbdmdllgalaagreatdoor", sum := "d9b32f272c87d4e7738a557159610482502c4997c30408b811c556d54ddc0107", func := "fasti/fastilaw43.AllocateBounded", spec := "allocateBounded", inPlace := ["internal/bytealg.IndexByteString", "internal/bytealg.IndexString"], unfollowed := true, recurses := true, named := ["internal/bytealg.MaxLen", "fasti/days.lengths"], apart := false, laid := [("fasti/days.lengths", laid_fasti_days_lengths)] }
def AllocateBoundedSaid : Prop := allocateBoundedRow.holds Tryz.pinned (OpenSpec.ofChange allocateBoundedSpec)

/-- ITS FALSE NEIGHBOUR: 'it returns false'. Refute it at one input. -/
def allocateBoundedWrong : ChangeSpec := { name := "allocateBounded", fn := fun _ => fun
  | [d1, d2, d3, d4, d5, d6] => { results := [.lit (.bool false)], args := [d1, d2, d3, d4, d5, d6] }
  | _ => none }
def AllocateBoundedWrongFalsely : Prop := allocateBoundedRow.holds Tryz.pinned (OpenSpec.ofChange allocateBoundedWrong)

/-- 'fastilaw43.AllocateMore': WHATEVER THE INPUT: true; the input reads as it did. -/
def allocateMoreSpec : ChangeSpec := { name := "allocateMore", fn := fun _ => fun
  | [d1, d2, d3, d4, d5] => { results := [.lit (.bool true)], args := [d1, d2, d3, d4, d5] }
  | _ => none }
def allocateMoreRow : OpenClaim := { program := "ytfffbdmdllgalaagreatdoor", sum := "d9b32f272c87d4e7738a557159610482502c4997c30408b811c556d54ddc0107", func := "fasti/fastilaw43.AllocateMore", spec := "allocateMore", inPlace := ["internal/bytealg.IndexByteString", "internal/bytealg.IndexString"], unfollowed := true, recurses := true, named := ["internal/bytealg.MaxLen", "fasti/days.lengths"], apart := false, laid := [("fasti/days.lengths", laid_fasti_days_lengths)] }
def AllocateMoreSaid : Prop := allocateMoreRow.holds Tryz.pinned (OpenSpec.ofChange allocateMoreSpec)

/-- ITS FALSE NEIGHBOUR: 'it returns false'. Refute it at one input. -/
def allocateMoreWrong : ChangeSpec := { name := "allocateMore", fn := fun _ => fun
  | [d1, d2, d3, d4, d5] => { results := [.lit (.bool false)], args := [d1, d2, d3, d4, d5] }
  | _ => none }
def AllocateMoreWrongFalsely : Prop := allocateMoreRow.holds Tryz.pinned (OpenSpec.ofChange allocateMoreWrong)

/-- 'fastilaw43.AllocateBest': WHATEVER THE INPUT: true; the input reads as it did. -/
def allocateBestSpec : ChangeSpec := { name := "allocateBest", fn := fun _ => fun
  | [d1, d2, d3, d4, d5] => { results := [.lit (.bool true)], args := [d1, d2, d3, d4, d5] }
  | _ => none }
def allocateBestRow : OpenClaim := { program := "ytfffbdmdllgalaagreatdoor", sum := "d9b32f272c87d4e7738a557159610482502c4997c30408b811c556d54ddc0107", func := "fasti/fastilaw43.AllocateBest", spec := "allocateBest", inPlace := ["internal/bytealg.IndexByteString", "internal/bytealg.IndexString"], unfollowed := true, recurses := true, named := ["internal/bytealg.MaxLen", "fasti/days.lengths"], apart := false, laid := [("fasti/days.lengths", laid_fasti_days_lengths)] }
def AllocateBestSaid : Prop := allocateBestRow.holds Tryz.pinned (OpenSpec.ofChange allocateBestSpec)

/-- ITS FALSE NEIGHBOUR: 'it returns false'. Refute it at one input. -/
def allocateBestWrong : ChangeSpec := { name := "allocateBest", fn := fun _ => fun
  | [d1, d2, d3, d4, d5] => { results := [.lit (.bool false)], args := [d1, d2, d3, d4, d5] }
  | _ => none }
def AllocateBestWrongFalsely : Prop := allocateBestRow.holds Tryz.pinned (OpenSpec.ofChange allocateBestWrong)

/-- 'fastilaw43.AllocateOne': WHATEVER THE INPUT: true; the input reads as it did. -/
def allocateOneSpec : ChangeSpec := { name := "allocateOne", fn := fun _ => fun
  | [d1, d2, d3, d4, d5] => { results := [.lit (.bool true)], args := [d1, d2, d3, d4, d5] }
  | _ => none }
def allocateOneRow : OpenClaim := { program := "ytfffbdmdllgalaagreatdoor", sum := "d9b32f272c87d4e7738a557159610482502c4997c30408b811c556d54ddc0107", func := "fasti/fastilaw43.AllocateOne", spec := "allocateOne", inPlace := ["internal/bytealg.IndexByteString", "internal/bytealg.IndexString"], unfollowed := true, recurses := true, named := ["internal/bytealg.MaxLen", "fasti/days.lengths"], apart := false, laid := [("fasti/days.lengths", laid_fasti_days_lengths)] }
def AllocateOneSaid : Prop := allocateOneRow.holds Tryz.pinned (OpenSpec.ofChange allocateOneSpec)

/-- ITS FALSE NEIGHBOUR: 'it returns false'. Refute it at one input. -/
def allocateOneWrong : ChangeSpec := { name := "allocateOne", fn := fun _ => fun
  | [d1, d2, d3, d4, d5] => { results := [.lit (.bool false)], args := [d1, d2, d3, d4, d5] }
  | _ => none }
def AllocateOneWrongFalsely : Prop := allocateOneRow.holds Tryz.pinned (OpenSpec.ofChange allocateOneWrong)

/-- 'fastilaw44.PaymentsSpec': WHATEVER THE INPUT: true; the input reads as it did. -/
def paymentsSpecSpec : ChangeSpec := { name := "paymentsSpec", fn := fun _ => fun
  | [d1, d2, d3, d4] => { results := [.lit (.bool true)], args := [d1, d2, d3, d4] }
  | _ => none }
def paymentsSpecRow : OpenClaim := { program := "ytfffbdmdllgalaagreatdoor", sum := "d9b32f272c87d4e7738a557159610482502c4997c30408b811c556d54ddc0107", func := "fasti/fastilaw44.PaymentsSpec", spec := "paymentsSpec", inPlace := ["internal/bytealg.IndexByteString", "internal/bytealg.IndexString"], unfollowed := true, recurses := true, named := ["internal/bytealg.MaxLen", "fasti/days.lengths"], apart := false, laid := [("fasti/days.lengths", laid_fasti_days_lengths)] }
def PaymentsSpecSaid : Prop := paymentsSpecRow.holds Tryz.pinned (OpenSpec.ofChange paymentsSpecSpec)

/-- ITS FALSE NEIGHBOUR: 'it returns false'. Refute it at one input. -/
def paymentsSpecWrong : ChangeSpec := { name := "paymentsSpec", fn := fun _ => fun
  | [d1, d2, d3, d4] => { results := [.lit (.bool false)], args := [d1, d2, d3, d4] }
  | _ => none }
def PaymentsSpecWrongFalsely : Prop := paymentsSpecRow.holds Tryz.pinned (OpenSpec.ofChange paymentsSpecWrong)

/-- 'fastilaw44.PaymentsGainSpec': WHATEVER THE INPUT: true; the input reads as it did. -/
def paymentsGainSpecSpec : ChangeSpec := { name := "paymentsGainSpec", fn := fun _ => fun
  | [d1, d2, d3, d4, d5, d6] => { results := [.lit (.bool true)], args := [d1, d2, d3, d4, d5, d6] }
  | _ => none }
def paymentsGainSpecRow : OpenClaim := { program := "ytfffbdmdllgalaagreatdoor", sum := "d9b32f272c87d4e7738a557159610482502c4997c30408b811c556d54ddc0107", func := "fasti/fastilaw44.PaymentsGainSpec", spec := "paymentsGainSpec", inPlace := ["internal/bytealg.IndexByteString", "internal/bytealg.IndexString"], unfollowed := true, recurses := true, named := ["internal/bytealg.MaxLen", "fasti/days.lengths"], apart := false, laid := [("fasti/days.lengths", laid_fasti_days_lengths)] }
def PaymentsGainSpecSaid : Prop := paymentsGainSpecRow.holds Tryz.pinned (OpenSpec.ofChange paymentsGainSpecSpec)

/-- ITS FALSE NEIGHBOUR: 'it returns false'. Refute it at one input. -/
def paymentsGainSpecWrong : ChangeSpec := { name := "paymentsGainSpec", fn := fun _ => fun
  | [d1, d2, d3, d4, d5, d6] => { results := [.lit (.bool false)], args := [d1, d2, d3, d4, d5, d6] }
  | _ => none }
def PaymentsGainSpecWrongFalsely : Prop := paymentsGainSpecRow.holds Tryz.pinned (OpenSpec.ofChange paymentsGainSpecWrong)

/-- 'fastilaw44.PaymentsTruth': WHATEVER THE INPUT: true; the input reads as it did. -/
def paymentsTruthSpec : ChangeSpec := { name := "paymentsTruth", fn := fun _ => fun
  | [d1, d2, d3, d4, d5, d6, d7] => { results := [.lit (.bool true)], args := [d1, d2, d3, d4, d5, d6, d7] }
  | _ => none }
def paymentsTruthRow : OpenClaim := { program := "ytfffbdmdllgalaagreatdoor", sum := "d9b32f272c87d4e7738a557159610482502c4997c30408b811c556d54ddc0107", func := "fasti/fastilaw44.PaymentsTruth", spec := "paymentsTruth", inPlace := ["internal/bytealg.IndexByteString", "internal/bytealg.IndexString"], unfollowed := true, recurses := true, named := ["internal/bytealg.MaxLen", "fasti/days.lengths"], apart := false, laid := [("fasti/days.lengths", laid_fasti_days_lengths)] }
def PaymentsTruthSaid : Prop := paymentsTruthRow.holds Tryz.pinned (OpenSpec.ofChange paymentsTruthSpec)

/-- ITS FALSE NEIGHBOUR: 'it returns false'. Refute it at one input. -/
def paymentsTruthWrong : ChangeSpec := { name := "paymentsTruth", fn := fun _ => fun
  | [d1, d2, d3, d4, d5, d6, d7] => { results := [.lit (.bool false)], args := [d1, d2, d3, d4, d5, d6, d7] }
  | _ => none }
def PaymentsTruthWrongFalsely : Prop := paymentsTruthRow.holds Tryz.pinned (OpenSpec.ofChange paymentsTruthWrong)

/-- 'fastilaw44.PaymentsEffect': WHATEVER THE INPUT: true; the input reads as it did. -/
def paymentsEffectSpec : ChangeSpec := { name := "paymentsEffect", fn := fun _ => fun
  | [d1, d2, d3, d4] => { results := [.lit (.bool true)], args := [d1, d2, d3, d4] }
  | _ => none }
def paymentsEffectRow : OpenClaim := { program := "ytfffbdmdllgalaagreatdoor", sum := "d9b32f272c87d4e7738a557159610482502c4997c30408b811c556d54ddc0107", func := "fasti/fastilaw44.PaymentsEffect", spec := "paymentsEffect", inPlace := ["internal/bytealg.IndexByteString", "internal/bytealg.IndexString"], unfollowed := true, recurses := true, named := ["internal/bytealg.MaxLen", "fasti/days.lengths"], apart := false, laid := [("fasti/days.lengths", laid_fasti_days_lengths)] }
def PaymentsEffectSaid : Prop := paymentsEffectRow.holds Tryz.pinned (OpenSpec.ofChange paymentsEffectSpec)

/-- ITS FALSE NEIGHBOUR: 'it returns false'. Refute it at one input. -/
def paymentsEffectWrong : ChangeSpec := { name := "paymentsEffect", fn := fun _ => fun
  | [d1, d2, d3, d4] => { results := [.lit (.bool false)], args := [d1, d2, d3, d4] }
  | _ => none }
def PaymentsEffectWrongFalsely : Prop := paymentsEffectRow.holds Tryz.pinned (OpenSpec.ofChange paymentsEffectWrong)

/-- 'fastilaw44.PaymentsAlone': WHATEVER THE INPUT: true; the input reads as it did. -/
def paymentsAloneSpec : ChangeSpec := { name := "paymentsAlone", fn := fun _ => fun
  | [d1, d2, d3, d4, d5, d6] => { results := [.lit (.bool true)], args := [d1, d2, d3, d4, d5, d6] }
  | _ => none }
def paymentsAloneRow : OpenClaim := { program := "ytfffbdmdllgalaagreatdoor", sum := "d9b32f272c87d4e7738a557159610482502c4997c30408b811c556d54ddc0107", func := "fasti/fastilaw44.PaymentsAlone", spec := "paymentsAlone", inPlace := ["internal/bytealg.IndexByteString", "internal/bytealg.IndexString"], unfollowed := true, recurses := true, named := ["internal/bytealg.MaxLen", "fasti/days.lengths"], apart := false, laid := [("fasti/days.lengths", laid_fasti_days_lengths)] }
def PaymentsAloneSaid : Prop := paymentsAloneRow.holds Tryz.pinned (OpenSpec.ofChange paymentsAloneSpec)

/-- ITS FALSE NEIGHBOUR: 'it returns false'. Refute it at one input. -/
def paymentsAloneWrong : ChangeSpec := { name := "paymentsAlone", fn := fun _ => fun
  | [d1, d2, d3, d4, d5, d6] => { results := [.lit (.bool false)], args := [d1, d2, d3, d4, d5, d6] }
  | _ => none }
def PaymentsAloneWrongFalsely : Prop := paymentsAloneRow.holds Tryz.pinned (OpenSpec.ofChange paymentsAloneWrong)

/-- 'fastilaw45.ResaleAuction': WHATEVER THE INPUT: true; the input reads as it did. -/
def resaleAuctionSpec : ChangeSpec := { name := "resaleAuction", fn := fun _ => fun
  | [d] => { results := [.lit (.bool true)], args := [d] }
  | _ => none }
def resaleAuctionRow : OpenClaim := { program := "ytfffbdmdllgalaagreatdoor", sum := "d9b32f272c87d4e7738a557159610482502c4997c30408b811c556d54ddc0107", func := "fasti/fastilaw45.ResaleAuction", spec := "resaleAuction", inPlace := ["internal/bytealg.IndexByteString", "internal/bytealg.IndexString"], unfollowed := true, recurses := true, named := ["internal/bytealg.MaxLen", "fasti/days.lengths"], apart := false, laid := [("fasti/days.lengths", laid_fasti_days_lengths)] }
def ResaleAuctionSaid : Prop := resaleAuctionRow.holds Tryz.pinned (OpenSpec.ofChange resaleAuctionSpec)

/-- ITS FALSE NEIGHBOUR: 'it returns false'. Refute it at one input. -/
def resaleAuctionWrong : ChangeSpec := { name := "resaleAuction", fn := fun _ => fun
  | [d] => { results := [.lit (.bool false)], args := [d] }
  | _ => none }
def ResaleAuctionWrongFalsely : Prop := resaleAuctionRow.holds Tryz.pinned (OpenSpec.ofChange resaleAuctionWrong)

/- THE SECOND FORM. 'bulk': how many values and letters a reading holds, each counted each time it is reached (what is shared counts as often as it is met; a slice's spare places count too). A statement '..UptoSaid' is the law's where the arguments, and the package variables that the reading takes, are together of bulk at most 1048576: NARROWER than '..Said'. Prove '..Said' where nothing that the law and all that it calls make is longer than what came in: it says more and counts as full. Else prove '..UptoSaid'. A law counts once. -/
mutual
def uptoBulk {H : Type} : DataW H → Nat
  | .lit (.string bytes) => bytes.length + 1
  | .lit _ => 1
  | .nil => 1
  | .ptr d => uptoBulk d + 1
  | .slice elems spare => uptoBulkAll elems + uptoBulkAll spare + 1
  | .agg parts => uptoBulkAll parts + 1
  | .iface _ d => uptoBulk d + 1
  | .map entries => uptoBulkEntries entries + 1
  | .held _ => 1
def uptoBulkAll {H : Type} : List (DataW H) → Nat
  | [] => 0
  | d :: r => uptoBulk d + uptoBulkAll r
def uptoBulkEntries {H : Type} : List (Lit × DataW H) → Nat
  | [] => 0
  | x :: r => uptoBulkEntry x + uptoBulkEntries r
def uptoBulkEntry {H : Type} : Lit × DataW H → Nat
  | (.string bytes, d) => bytes.length + uptoBulk d + 1
  | (_, d) => uptoBulk d + 1
 end
def uptoSmall : (H : Type) → List (DataW H) → Bool := fun _ ds => decide (uptoBulkAll ds ≤ 1048576)
def OpenSpec.upto (s : _root_.Go.ChangeSpec) : _root_.Go.OpenSpec := { _root_.Go.OpenSpec.ofChange s with cond := some uptoSmall }

/-- 'fastilaw42.BidsSpec', WHERE WHAT IT READS IS OF BULK AT MOST 1048576: true; the input reads as it did. -/
def bidsSpecUptoRow : OpenClaim := { program := "ytfffbdmdllgalaagreatdoor", sum := "d9b32f272c87d4e7738a557159610482502c4997c30408b811c556d54ddc0107", func := "fasti/fastilaw42.BidsSpec", spec := "bidsSpec", inPlace := ["internal/bytealg.IndexByteString", "internal/bytealg.IndexString"], unfollowed := true, recurses := true, named := ["internal/bytealg.MaxLen", "fasti/days.lengths"], apart := false, laid := [("fasti/days.lengths", laid_fasti_days_lengths)], narrowed := true }
def BidsSpecUptoSaid : Prop := bidsSpecUptoRow.holds Tryz.pinned (OpenSpec.upto bidsSpecSpec)

/-- 'fastilaw42.BidsValueSpec', WHERE WHAT IT READS IS OF BULK AT MOST 1048576: true; the input reads as it did. -/
def bidsValueSpecUptoRow : OpenClaim := { program := "ytfffbdmdllgalaagreatdoor", sum := "d9b32f272c87d4e7738a557159610482502c4997c30408b811c556d54ddc0107", func := "fasti/fastilaw42.BidsValueSpec", spec := "bidsValueSpec", inPlace := ["internal/bytealg.IndexByteString", "internal/bytealg.IndexString"], unfollowed := true, recurses := true, named := ["internal/bytealg.MaxLen", "fasti/days.lengths"], apart := false, laid := [("fasti/days.lengths", laid_fasti_days_lengths)], narrowed := true }
def BidsValueSpecUptoSaid : Prop := bidsValueSpecUptoRow.holds Tryz.pinned (OpenSpec.upto bidsValueSpecSpec)

/-- 'fastilaw42.BidsSubstitutes', WHERE WHAT IT READS IS OF BULK AT MOST 1048576: true; the input reads as it did. -/
def bidsSubstitutesUptoRow : OpenClaim := { program := "ytfffbdmdllgalaagreatdoor", sum := "d9b32f272c87d4e7738a557159610482502c4997c30408b811c556d54ddc0107", func := "fasti/fastilaw42.BidsSubstitutes", spec := "bidsSubstitutes", inPlace := ["internal/bytealg.IndexByteString", "internal/bytealg.IndexString"], unfollowed := true, recurses := true, named := ["internal/bytealg.MaxLen", "fasti/days.lengths"], apart := false, laid := [("fasti/days.lengths", laid_fasti_days_lengths)], narrowed := true }
def BidsSubstitutesUptoSaid : Prop := bidsSubstitutesUptoRow.holds Tryz.pinned (OpenSpec.upto bidsSubstitutesSpec)

/-- 'fastilaw42.BidsSum', WHERE WHAT IT READS IS OF BULK AT MOST 1048576: true; the input reads as it did. -/
def bidsSumUptoRow : OpenClaim := { program := "ytfffbdmdllgalaagreatdoor", sum := "d9b32f272c87d4e7738a557159610482502c4997c30408b811c556d54ddc0107", func := "fasti/fastilaw42.BidsSum", spec := "bidsSum", inPlace := ["internal/bytealg.IndexByteString", "internal/bytealg.IndexString"], unfollowed := true, recurses := true, named := ["internal/bytealg.MaxLen", "fasti/days.lengths"], apart := false, laid := [("fasti/days.lengths", laid_fasti_days_lengths)], narrowed := true }
def BidsSumUptoSaid : Prop := bidsSumUptoRow.holds Tryz.pinned (OpenSpec.upto bidsSumSpec)

/-- 'fastilaw42.BidsCounts', WHERE WHAT IT READS IS OF BULK AT MOST 1048576: true; the input reads as it did. -/
def bidsCountsUptoRow : OpenClaim := { program := "ytfffbdmdllgalaagreatdoor", sum := "d9b32f272c87d4e7738a557159610482502c4997c30408b811c556d54ddc0107", func := "fasti/fastilaw42.BidsCounts", spec := "bidsCounts", inPlace := ["internal/bytealg.IndexByteString", "internal/bytealg.IndexString"], unfollowed := true, recurses := true, named := ["internal/bytealg.MaxLen", "fasti/days.lengths"], apart := false, laid := [("fasti/days.lengths", laid_fasti_days_lengths)], narrowed := true }
def BidsCountsUptoSaid : Prop := bidsCountsUptoRow.holds Tryz.pinned (OpenSpec.upto bidsCountsSpec)

/-- 'fastilaw42.BidsLess', WHERE WHAT IT READS IS OF BULK AT MOST 1048576: true; the input reads as it did. -/
def bidsLessUptoRow : OpenClaim := { program := "ytfffbdmdllgalaagreatdoor", sum := "d9b32f272c87d4e7738a557159610482502c4997c30408b811c556d54ddc0107", func := "fasti/fastilaw42.BidsLess", spec := "bidsLess", inPlace := ["internal/bytealg.IndexByteString", "internal/bytealg.IndexString"], unfollowed := true, recurses := true, named := ["internal/bytealg.MaxLen", "fasti/days.lengths"], apart := false, laid := [("fasti/days.lengths", laid_fasti_days_lengths)], narrowed := true }
def BidsLessUptoSaid : Prop := bidsLessUptoRow.holds Tryz.pinned (OpenSpec.upto bidsLessSpec)

/-- 'fastitop.TopAuction', WHERE WHAT IT READS IS OF BULK AT MOST 1048576: true; the input reads as it did. -/
def topAuctionUptoRow : OpenClaim := { program := "ytfffbdmdllgalaagreatdoor", sum := "d9b32f272c87d4e7738a557159610482502c4997c30408b811c556d54ddc0107", func := "fasti/fastitop.TopAuction", spec := "topAuction", inPlace := ["internal/bytealg.IndexByteString", "internal/bytealg.IndexString"], unfollowed := true, recurses := true, named := ["internal/bytealg.MaxLen", "fasti/days.lengths"], apart := false, laid := [("fasti/days.lengths", laid_fasti_days_lengths)], narrowed := true }
def TopAuctionUptoSaid : Prop := topAuctionUptoRow.holds Tryz.pinned (OpenSpec.upto topAuctionSpec)

/-- 'fastilaw45.ResaleSpec', WHERE WHAT IT READS IS OF BULK AT MOST 1048576: true; the input reads as it did. -/
def resaleSpecUptoRow : OpenClaim := { program := "ytfffbdmdllgalaagreatdoor", sum := "d9b32f272c87d4e7738a557159610482502c4997c30408b811c556d54ddc0107", func := "fasti/fastilaw45.ResaleSpec", spec := "resaleSpec", inPlace := ["internal/bytealg.IndexByteString", "internal/bytealg.IndexString"], unfollowed := true, recurses := true, named := ["internal/bytealg.MaxLen", "fasti/days.lengths"], apart := false, laid := [("fasti/days.lengths", laid_fasti_days_lengths)], narrowed := true }
def ResaleSpecUptoSaid : Prop := resaleSpecUptoRow.holds Tryz.pinned (OpenSpec.upto resaleSpecSpec)

/-- 'fastilaw45.ResaleGain', WHERE WHAT IT READS IS OF BULK AT MOST 1048576: true; the input reads as it did. -/
def resaleGainUptoRow : OpenClaim := { program := "ytfffbdmdllgalaagreatdoor", sum := "d9b32f272c87d4e7738a557159610482502c4997c30408b811c556d54ddc0107", func := "fasti/fastilaw45.ResaleGain", spec := "resaleGain", inPlace := ["internal/bytealg.IndexByteString", "internal/bytealg.IndexString"], unfollowed := true, recurses := true, named := ["internal/bytealg.MaxLen", "fasti/days.lengths"], apart := false, laid := [("fasti/days.lengths", laid_fasti_days_lengths)], narrowed := true }
def ResaleGainUptoSaid : Prop := resaleGainUptoRow.holds Tryz.pinned (OpenSpec.upto resaleGainSpec)

/-- 'fastilaw45.ResaleTwice', WHERE WHAT IT READS IS OF BULK AT MOST 1048576: true; the input reads as it did. -/
def resaleTwiceUptoRow : OpenClaim := { program := "ytfffbdmdllgalaagreatdoor", sum := "d9b32f272c87d4e7738a557159610482502c4997c30408b811c556d54ddc0107", func := "fasti/fastilaw45.ResaleTwice", spec := "resaleTwice", inPlace := ["internal/bytealg.IndexByteString", "internal/bytealg.IndexString"], unfollowed := true, recurses := true, named := ["internal/bytealg.MaxLen", "fasti/days.lengths"], apart := false, laid := [("fasti/days.lengths", laid_fasti_days_lengths)], narrowed := true }
def ResaleTwiceUptoSaid : Prop := resaleTwiceUptoRow.holds Tryz.pinned (OpenSpec.upto resaleTwiceSpec)

/-- 'fastilaw45.ResaleSame', WHERE WHAT IT READS IS OF BULK AT MOST 1048576: true; the input reads as it did. -/
def resaleSameUptoRow : OpenClaim := { program := "ytfffbdmdllgalaagreatdoor", sum := "d9b32f272c87d4e7738a557159610482502c4997c30408b811c556d54ddc0107", func := "fasti/fastilaw45.ResaleSame", spec := "resaleSame", inPlace := ["internal/bytealg.IndexByteString", "internal/bytealg.IndexString"], unfollowed := true, recurses := true, named := ["internal/bytealg.MaxLen", "fasti/days.lengths"], apart := false, laid := [("fasti/days.lengths", laid_fasti_days_lengths)], narrowed := true }
def ResaleSameUptoSaid : Prop := resaleSameUptoRow.holds Tryz.pinned (OpenSpec.upto resaleSameSpec)

/-- 'fastilaw45.ResaleLess', WHERE WHAT IT READS IS OF BULK AT MOST 1048576: true; the input reads as it did. -/
def resaleLessUptoRow : OpenClaim := { program := "ytfffbdmdllgalaagreatdoor", sum := "d9b32f272c87d4e7738a557159610482502c4997c30408b811c556d54ddc0107", func := "fasti/fastilaw45.ResaleLess", spec := "resaleLess", inPlace := ["internal/bytealg.IndexByteString", "internal/bytealg.IndexString"], unfollowed := true, recurses := true, named := ["internal/bytealg.MaxLen", "fasti/days.lengths"], apart := false, laid := [("fasti/days.lengths", laid_fasti_days_lengths)], narrowed := true }
def ResaleLessUptoSaid : Prop := resaleLessUptoRow.holds Tryz.pinned (OpenSpec.upto resaleLessSpec)

/-- 'fastilaw43.AllocateSpec', WHERE WHAT IT READS IS OF BULK AT MOST 1048576: true; the input reads as it did. -/
def allocateSpecUptoRow : OpenClaim := { program := "ytfffbdmdllgalaagreatdoor", sum := "d9b32f272c87d4e7738a557159610482502c4997c30408b811c556d54ddc0107", func := "fasti/fastilaw43.AllocateSpec", spec := "allocateSpec", inPlace := ["internal/bytealg.IndexByteString", "internal/bytealg.IndexString"], unfollowed := true, recurses := true, named := ["internal/bytealg.MaxLen", "fasti/days.lengths"], apart := false, laid := [("fasti/days.lengths", laid_fasti_days_lengths)], narrowed := true }
def AllocateSpecUptoSaid : Prop := allocateSpecUptoRow.holds Tryz.pinned (OpenSpec.upto allocateSpecSpec)

/-- 'fastilaw43.AllocateBoundSpec', WHERE WHAT IT READS IS OF BULK AT MOST 1048576: true; the input reads as it did. -/
def allocateBoundSpecUptoRow : OpenClaim := { program := "ytfffbdmdllgalaagreatdoor", sum := "d9b32f272c87d4e7738a557159610482502c4997c30408b811c556d54ddc0107", func := "fasti/fastilaw43.AllocateBoundSpec", spec := "allocateBoundSpec", inPlace := ["internal/bytealg.IndexByteString", "internal/bytealg.IndexString"], unfollowed := true, recurses := true, named := ["internal/bytealg.MaxLen", "fasti/days.lengths"], apart := false, laid := [("fasti/days.lengths", laid_fasti_days_lengths)], narrowed := true }
def AllocateBoundSpecUptoSaid : Prop := allocateBoundSpecUptoRow.holds Tryz.pinned (OpenSpec.upto allocateBoundSpecSpec)

/-- 'fastilaw43.AllocateBounded', WHERE WHAT IT READS IS OF BULK AT MOST 1048576: true; the input reads as it did. -/
def allocateBoundedUptoRow : OpenClaim := { program := "ytfffbdmdllgalaagreatdoor", sum := "d9b32f272c87d4e7738a557159610482502c4997c30408b811c556d54ddc0107", func := "fasti/fastilaw43.AllocateBounded", spec := "allocateBounded", inPlace := ["internal/bytealg.IndexByteString", "internal/bytealg.IndexString"], unfollowed := true, recurses := true, named := ["internal/bytealg.MaxLen", "fasti/days.lengths"], apart := false, laid := [("fasti/days.lengths", laid_fasti_days_lengths)], narrowed := true }
def AllocateBoundedUptoSaid : Prop := allocateBoundedUptoRow.holds Tryz.pinned (OpenSpec.upto allocateBoundedSpec)

/-- 'fastilaw43.AllocateMore', WHERE WHAT IT READS IS OF BULK AT MOST 1048576: true; the input reads as it did. -/
def allocateMoreUptoRow : OpenClaim := { program := "ytfffbdmdllgalaagreatdoor", sum := "d9b32f272c87d4e7738a557159610482502c4997c30408b811c556d54ddc0107", func := "fasti/fastilaw43.AllocateMore", spec := "allocateMore", inPlace := ["internal/bytealg.IndexByteString", "internal/bytealg.IndexString"], unfollowed := true, recurses := true, named := ["internal/bytealg.MaxLen", "fasti/days.lengths"], apart := false, laid := [("fasti/days.lengths", laid_fasti_days_lengths)], narrowed := true }
def AllocateMoreUptoSaid : Prop := allocateMoreUptoRow.holds Tryz.pinned (OpenSpec.upto allocateMoreSpec)

/-- 'fastilaw43.AllocateBest', WHERE WHAT IT READS IS OF BULK AT MOST 1048576: true; the input reads as it did. -/
def allocateBestUptoRow : OpenClaim := { program := "ytfffbdmdllgalaagreatdoor", sum := "d9b32f272c87d4e7738a557159610482502c4997c30408b811c556d54ddc0107", func := "fasti/fastilaw43.AllocateBest", spec := "allocateBest", inPlace := ["internal/bytealg.IndexByteString", "internal/bytealg.IndexString"], unfollowed := true, recurses := true, named := ["internal/bytealg.MaxLen", "fasti/days.lengths"], apart := false, laid := [("fasti/days.lengths", laid_fasti_days_lengths)], narrowed := true }
def AllocateBestUptoSaid : Prop := allocateBestUptoRow.holds Tryz.pinned (OpenSpec.upto allocateBestSpec)

/-- 'fastilaw43.AllocateOne', WHERE WHAT IT READS IS OF BULK AT MOST 1048576: true; the input reads as it did. -/
def allocateOneUptoRow : OpenClaim := { program := "ytfffbdmdllgalaagreatdoor", sum := "d9b32f272c87d4e7738a557159610482502c4997c30408b811c556d54ddc0107", func := "fasti/fastilaw43.AllocateOne", spec := "allocateOne", inPlace := ["internal/bytealg.IndexByteString", "internal/bytealg.IndexString"], unfollowed := true, recurses := true, named := ["internal/bytealg.MaxLen", "fasti/days.lengths"], apart := false, laid := [("fasti/days.lengths", laid_fasti_days_lengths)], narrowed := true }
def AllocateOneUptoSaid : Prop := allocateOneUptoRow.holds Tryz.pinned (OpenSpec.upto allocateOneSpec)

/-- 'fastilaw44.PaymentsSpec', WHERE WHAT IT READS IS OF BULK AT MOST 1048576: true; the input reads as it did. -/
def paymentsSpecUptoRow : OpenClaim := { program := "ytfffbdmdllgalaagreatdoor", sum := "d9b32f272c87d4e7738a557159610482502c4997c30408b811c556d54ddc0107", func := "fasti/fastilaw44.PaymentsSpec", spec := "paymentsSpec", inPlace := ["internal/bytealg.IndexByteString", "internal/bytealg.IndexString"], unfollowed := true, recurses := true, named := ["internal/bytealg.MaxLen", "fasti/days.lengths"], apart := false, laid := [("fasti/days.lengths", laid_fasti_days_lengths)], narrowed := true }
def PaymentsSpecUptoSaid : Prop := paymentsSpecUptoRow.holds Tryz.pinned (OpenSpec.upto paymentsSpecSpec)

/-- 'fastilaw44.PaymentsGainSpec', WHERE WHAT IT READS IS OF BULK AT MOST 1048576: true; the input reads as it did. -/
def paymentsGainSpecUptoRow : OpenClaim := { program := "ytfffbdmdllgalaagreatdoor", sum := "d9b32f272c87d4e7738a557159610482502c4997c30408b811c556d54ddc0107", func := "fasti/fastilaw44.PaymentsGainSpec", spec := "paymentsGainSpec", inPlace := ["internal/bytealg.IndexByteString", "internal/bytealg.IndexString"], unfollowed := true, recurses := true, named := ["internal/bytealg.MaxLen", "fasti/days.lengths"], apart := false, laid := [("fasti/days.lengths", laid_fasti_days_lengths)], narrowed := true }
def PaymentsGainSpecUptoSaid : Prop := paymentsGainSpecUptoRow.holds Tryz.pinned (OpenSpec.upto paymentsGainSpecSpec)

/-- 'fastilaw44.PaymentsTruth', WHERE WHAT IT READS IS OF BULK AT MOST 1048576: true; the input reads as it did. -/
def paymentsTruthUptoRow : OpenClaim := { program := "ytfffbdmdllgalaagreatdoor", sum := "d9b32f272c87d4e7738a557159610482502c4997c30408b811c556d54ddc0107", func := "fasti/fastilaw44.PaymentsTruth", spec := "paymentsTruth", inPlace := ["internal/bytealg.IndexByteString", "internal/bytealg.IndexString"], unfollowed := true, recurses := true, named := ["internal/bytealg.MaxLen", "fasti/days.lengths"], apart := false, laid := [("fasti/days.lengths", laid_fasti_days_lengths)], narrowed := true }
def PaymentsTruthUptoSaid : Prop := paymentsTruthUptoRow.holds Tryz.pinned (OpenSpec.upto paymentsTruthSpec)

/-- 'fastilaw44.PaymentsEffect', WHERE WHAT IT READS IS OF BULK AT MOST 1048576: true; the input reads as it did. -/
def paymentsEffectUptoRow : OpenClaim := { program := "ytfffbdmdllgalaagreatdoor", sum := "d9b32f272c87d4e7738a557159610482502c4997c30408b811c556d54ddc0107", func := "fasti/fastilaw44.PaymentsEffect", spec := "paymentsEffect", inPlace := ["internal/bytealg.IndexByteString", "internal/bytealg.IndexString"], unfollowed := true, recurses := true, named := ["internal/bytealg.MaxLen", "fasti/days.lengths"], apart := false, laid := [("fasti/days.lengths", laid_fasti_days_lengths)], narrowed := true }
def PaymentsEffectUptoSaid : Prop := paymentsEffectUptoRow.holds Tryz.pinned (OpenSpec.upto paymentsEffectSpec)

/-- 'fastilaw44.PaymentsAlone', WHERE WHAT IT READS IS OF BULK AT MOST 1048576: true; the input reads as it did. -/
def paymentsAloneUptoRow : OpenClaim := { program := "ytfffbdmdllgalaagreatdoor", sum := "d9b32f272c87d4e7738a557159610482502c4997c30408b811c556d54ddc0107", func := "fasti/fastilaw44.PaymentsAlone", spec := "paymentsAlone", inPlace := ["internal/bytealg.IndexByteString", "internal/bytealg.IndexString"], unfollowed := true, recurses := true, named := ["internal/bytealg.MaxLen", "fasti/days.lengths"], apart := false, laid := [("fasti/days.lengths", laid_fasti_days_lengths)], narrowed := true }
def PaymentsAloneUptoSaid : Prop := paymentsAloneUptoRow.holds Tryz.pinned (OpenSpec.upto paymentsAloneSpec)

/-- 'fastilaw45.ResaleAuction', WHERE WHAT IT READS IS OF BULK AT MOST 1048576: true; the input reads as it did. -/
def resaleAuctionUptoRow : OpenClaim := { program := "ytfffbdmdllgalaagreatdoor", sum := "d9b32f272c87d4e7738a557159610482502c4997c30408b811c556d54ddc0107", func := "fasti/fastilaw45.ResaleAuction", spec := "resaleAuction", inPlace := ["internal/bytealg.IndexByteString", "internal/bytealg.IndexString"], unfollowed := true, recurses := true, named := ["internal/bytealg.MaxLen", "fasti/days.lengths"], apart := false, laid := [("fasti/days.lengths", laid_fasti_days_lengths)], narrowed := true }
def ResaleAuctionUptoSaid : Prop := resaleAuctionUptoRow.holds Tryz.pinned (OpenSpec.upto resaleAuctionSpec)

end Rows
end Go.Proofs.YtfffbdmdllgalaaGreatDoor
