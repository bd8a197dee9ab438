/-
  DERIVED. GIVEN WITH THE SEED: THE CARDS: each row of YtfffbdmdllgalaaGreatDoorRows.lean that lists a variable, with what it lists TIED to the program's text (the seventh form; the later family's looks); each row that meets fmt, with fmt's text TOLD by the authors' own Lean function (tested against real Go, not proved from fmt's source: count such statements apart). THE CARD IS WHAT COUNTS. Prove the row's statement (the work); the ties are given (YtfffbdmdllgalaaGreatDoorTie.lean); close each card by the builder's one call (the guide's Derived/Test/ToyasCard.lean, 'card_holds'). Laid BY PROGRAM, IN A SANDBOX (cutbox-door.mjs). By AI agents, Wed Nov 11 2026. No macro, syntax, notation, axiom, sorry.
-/
import Derived.Test.YtfffbdmdllgalaaGreatDoorRows
import GoSem.ClaimSeven
namespace Go.Proofs.YtfffbdmdllgalaaGreatDoor
namespace Rows

/-- THE TIED CARD OF 'fastilaw42.BidsSpec'. -/
def bidsSpecCard : Claim7 := { stood := { row := bidsSpecRow, standIns := [], harness := (true, "7702a74b62e7af1919b9c4a402151fe4bb3f2ce75d068c321079ddd807a14d4f"), looks := true }, kinds := [], alts := [], laidByText := true, laidKinds := [.widerDeep], laidTests := true, laidLooks := .later }
def BidsSpecCardSaid : Prop := Claim7.holds Tryz.pinned (.plain (OpenSpec.ofChange bidsSpecSpec)) bidsSpecCard

/-- THE TIED CARD OF 'fastilaw42.BidsValueSpec'. -/
def bidsValueSpecCard : Claim7 := { stood := { row := bidsValueSpecRow, standIns := [], harness := (true, "7702a74b62e7af1919b9c4a402151fe4bb3f2ce75d068c321079ddd807a14d4f"), looks := true }, kinds := [], alts := [], laidByText := true, laidKinds := [.widerDeep], laidTests := true, laidLooks := .later }
def BidsValueSpecCardSaid : Prop := Claim7.holds Tryz.pinned (.plain (OpenSpec.ofChange bidsValueSpecSpec)) bidsValueSpecCard

/-- THE TIED CARD OF 'fastilaw42.BidsSubstitutes'. -/
def bidsSubstitutesCard : Claim7 := { stood := { row := bidsSubstitutesRow, standIns := [], harness := (true, "7702a74b62e7af1919b9c4a402151fe4bb3f2ce75d068c321079ddd807a14d4f"), looks := true }, kinds := [], alts := [], laidByText := true, laidKinds := [.widerDeep], laidTests := true, laidLooks := .later }
def BidsSubstitutesCardSaid : Prop := Claim7.holds Tryz.pinned (.plain (OpenSpec.ofChange bidsSubstitutesSpec)) bidsSubstitutesCard

/-- THE TIED CARD OF 'fastilaw42.BidsSum'. -/
def bidsSumCard : Claim7 := { stood := { row := bidsSumRow, standIns := [], harness := (true, "7702a74b62e7af1919b9c4a402151fe4bb3f2ce75d068c321079ddd807a14d4f"), looks := true }, kinds := [], alts := [], laidByText := true, laidKinds := [.widerDeep], laidTests := true, laidLooks := .later }
def BidsSumCardSaid : Prop := Claim7.holds Tryz.pinned (.plain (OpenSpec.ofChange bidsSumSpec)) bidsSumCard

/-- THE TIED CARD OF 'fastilaw42.BidsCounts'. -/
def bidsCountsCard : Claim7 := { stood := { row := bidsCountsRow, standIns := [], harness := (true, "7702a74b62e7af1919b9c4a402151fe4bb3f2ce75d068c321079ddd807a14d4f"), looks := true }, kinds := [], alts := [], laidByText := true, laidKinds := [.widerDeep], laidTests := true, laidLooks := .later }
def BidsCountsCardSaid : Prop := Claim7.holds Tryz.pinned (.plain (OpenSpec.ofChange bidsCountsSpec)) bidsCountsCard

/-- THE TIED CARD OF 'fastilaw42.BidsLess'. -/
def bidsLessCard : Claim7 := { stood := { row := bidsLessRow, standIns := [], harness := (true, "7702a74b62e7af1919b9c4a402151fe4bb3f2ce75d068c321079ddd807a14d4f"), looks := true }, kinds := [], alts := [], laidByText := true, laidKinds := [.widerDeep], laidTests := true, laidLooks := .later }
def BidsLessCardSaid : Prop := Claim7.holds Tryz.pinned (.plain (OpenSpec.ofChange bidsLessSpec)) bidsLessCard

/-- THE TIED CARD OF 'fastitop.TopAuction'. -/
def topAuctionCard : Claim7 := { stood := { row := topAuctionRow, standIns := [], harness := (true, "7702a74b62e7af1919b9c4a402151fe4bb3f2ce75d068c321079ddd807a14d4f"), looks := true }, kinds := [], alts := [], laidByText := true, laidKinds := [.widerDeep], laidTests := true, laidLooks := .later }
def TopAuctionCardSaid : Prop := Claim7.holds Tryz.pinned (.plain (OpenSpec.ofChange topAuctionSpec)) topAuctionCard

/-- THE TIED CARD OF 'fastilaw45.ResaleSpec'. -/
def resaleSpecCard : Claim7 := { stood := { row := resaleSpecRow, standIns := [], harness := (true, "7702a74b62e7af1919b9c4a402151fe4bb3f2ce75d068c321079ddd807a14d4f"), looks := true }, kinds := [], alts := [], laidByText := true, laidKinds := [.widerDeep], laidTests := true, laidLooks := .later }
def ResaleSpecCardSaid : Prop := Claim7.holds Tryz.pinned (.plain (OpenSpec.ofChange resaleSpecSpec)) resaleSpecCard

/-- THE TIED CARD OF 'fastilaw45.ResaleGain'. -/
def resaleGainCard : Claim7 := { stood := { row := resaleGainRow, standIns := [], harness := (true, "7702a74b62e7af1919b9c4a402151fe4bb3f2ce75d068c321079ddd807a14d4f"), looks := true }, kinds := [], alts := [], laidByText := true, laidKinds := [.widerDeep], laidTests := true, laidLooks := .later }
def ResaleGainCardSaid : Prop := Claim7.holds Tryz.pinned (.plain (OpenSpec.ofChange resaleGainSpec)) resaleGainCard

/-- THE TIED CARD OF 'fastilaw45.ResaleTwice'. -/
def resaleTwiceCard : Claim7 := { stood := { row := resaleTwiceRow, standIns := [], harness := (true, "7702a74b62e7af1919b9c4a402151fe4bb3f2ce75d068c321079ddd807a14d4f"), looks := true }, kinds := [], alts := [], laidByText := true, laidKinds := [.widerDeep], laidTests := true, laidLooks := .later }
def ResaleTwiceCardSaid : Prop := Claim7.holds Tryz.pinned (.plain (OpenSpec.ofChange resaleTwiceSpec)) resaleTwiceCard

/-- THE TIED CARD OF 'fastilaw45.ResaleSame'. -/
def resaleSameCard : Claim7 := { stood := { row := resaleSameRow, standIns := [], harness := (true, "7702a74b62e7af1919b9c4a402151fe4bb3f2ce75d068c321079ddd807a14d4f"), looks := true }, kinds := [], alts := [], laidByText := true, laidKinds := [.widerDeep], laidTests := true, laidLooks := .later }
def ResaleSameCardSaid : Prop := Claim7.holds Tryz.pinned (.plain (OpenSpec.ofChange resaleSameSpec)) resaleSameCard

/-- THE TIED CARD OF 'fastilaw45.ResaleLess'. -/
def resaleLessCard : Claim7 := { stood := { row := resaleLessRow, standIns := [], harness := (true, "7702a74b62e7af1919b9c4a402151fe4bb3f2ce75d068c321079ddd807a14d4f"), looks := true }, kinds := [], alts := [], laidByText := true, laidKinds := [.widerDeep], laidTests := true, laidLooks := .later }
def ResaleLessCardSaid : Prop := Claim7.holds Tryz.pinned (.plain (OpenSpec.ofChange resaleLessSpec)) resaleLessCard

/-- THE TIED CARD OF 'fastilaw43.AllocateSpec'. -/
def allocateSpecCard : Claim7 := { stood := { row := allocateSpecRow, standIns := [], harness := (true, "7702a74b62e7af1919b9c4a402151fe4bb3f2ce75d068c321079ddd807a14d4f"), looks := true }, kinds := [], alts := [], laidByText := true, laidKinds := [.widerDeep], laidTests := true, laidLooks := .later }
def AllocateSpecCardSaid : Prop := Claim7.holds Tryz.pinned (.plain (OpenSpec.ofChange allocateSpecSpec)) allocateSpecCard

/-- THE TIED CARD OF 'fastilaw43.AllocateBoundSpec'. -/
def allocateBoundSpecCard : Claim7 := { stood := { row := allocateBoundSpecRow, standIns := [], harness := (true, "7702a74b62e7af1919b9c4a402151fe4bb3f2ce75d068c321079ddd807a14d4f"), looks := true }, kinds := [], alts := [], laidByText := true, laidKinds := [.widerDeep], laidTests := true, laidLooks := .later }
def AllocateBoundSpecCardSaid : Prop := Claim7.holds Tryz.pinned (.plain (OpenSpec.ofChange allocateBoundSpecSpec)) allocateBoundSpecCard

/-- THE TIED CARD OF 'fastilaw43.AllocateBounded'. -/
def allocateBoundedCard : Claim7 := { stood := { row := allocateBoundedRow, standIns := [], harness := (true, "7702a74b62e7af1919b9c4a402151fe4bb3f2ce75d068c321079ddd807a14d4f"), looks := true }, kinds := [], alts := [], laidByText := true, laidKinds := [.widerDeep], laidTests := true, laidLooks := .later }
def AllocateBoundedCardSaid : Prop := Claim7.holds Tryz.pinned (.plain (OpenSpec.ofChange allocateBoundedSpec)) allocateBoundedCard

/-- THE TIED CARD OF 'fastilaw43.AllocateMore'. -/
def allocateMoreCard : Claim7 := { stood := { row := allocateMoreRow, standIns := [], harness := (true, "7702a74b62e7af1919b9c4a402151fe4bb3f2ce75d068c321079ddd807a14d4f"), looks := true }, kinds := [], alts := [], laidByText := true, laidKinds := [.widerDeep], laidTests := true, laidLooks := .later }
def AllocateMoreCardSaid : Prop := Claim7.holds Tryz.pinned (.plain (OpenSpec.ofChange allocateMoreSpec)) allocateMoreCard

/-- THE TIED CARD OF 'fastilaw43.AllocateBest'. -/
def allocateBestCard : Claim7 := { stood := { row := allocateBestRow, standIns := [], harness := (true, "7702a74b62e7af1919b9c4a402151fe4bb3f2ce75d068c321079ddd807a14d4f"), looks := true }, kinds := [], alts := [], laidByText := true, laidKinds := [.widerDeep], laidTests := true, laidLooks := .later }
def AllocateBestCardSaid : Prop := Claim7.holds Tryz.pinned (.plain (OpenSpec.ofChange allocateBestSpec)) allocateBestCard

/-- THE TIED CARD OF 'fastilaw43.AllocateOne'. -/
def allocateOneCard : Claim7 := { stood := { row := allocateOneRow, standIns := [], harness := (true, "7702a74b62e7af1919b9c4a402151fe4bb3f2ce75d068c321079ddd807a14d4f"), looks := true }, kinds := [], alts := [], laidByText := true, laidKinds := [.widerDeep], laidTests := true, laidLooks := .later }
def AllocateOneCardSaid : Prop := Claim7.holds Tryz.pinned (.plain (OpenSpec.ofChange allocateOneSpec)) allocateOneCard

/-- THE TIED CARD OF 'fastilaw44.PaymentsSpec'. -/
def paymentsSpecCard : Claim7 := { stood := { row := paymentsSpecRow, standIns := [], harness := (true, "7702a74b62e7af1919b9c4a402151fe4bb3f2ce75d068c321079ddd807a14d4f"), looks := true }, kinds := [], alts := [], laidByText := true, laidKinds := [.widerDeep], laidTests := true, laidLooks := .later }
def PaymentsSpecCardSaid : Prop := Claim7.holds Tryz.pinned (.plain (OpenSpec.ofChange paymentsSpecSpec)) paymentsSpecCard

/-- THE TIED CARD OF 'fastilaw44.PaymentsGainSpec'. -/
def paymentsGainSpecCard : Claim7 := { stood := { row := paymentsGainSpecRow, standIns := [], harness := (true, "7702a74b62e7af1919b9c4a402151fe4bb3f2ce75d068c321079ddd807a14d4f"), looks := true }, kinds := [], alts := [], laidByText := true, laidKinds := [.widerDeep], laidTests := true, laidLooks := .later }
def PaymentsGainSpecCardSaid : Prop := Claim7.holds Tryz.pinned (.plain (OpenSpec.ofChange paymentsGainSpecSpec)) paymentsGainSpecCard

/-- THE TIED CARD OF 'fastilaw44.PaymentsTruth'. -/
def paymentsTruthCard : Claim7 := { stood := { row := paymentsTruthRow, standIns := [], harness := (true, "7702a74b62e7af1919b9c4a402151fe4bb3f2ce75d068c321079ddd807a14d4f"), looks := true }, kinds := [], alts := [], laidByText := true, laidKinds := [.widerDeep], laidTests := true, laidLooks := .later }
def PaymentsTruthCardSaid : Prop := Claim7.holds Tryz.pinned (.plain (OpenSpec.ofChange paymentsTruthSpec)) paymentsTruthCard

/-- THE TIED CARD OF 'fastilaw44.PaymentsEffect'. -/
def paymentsEffectCard : Claim7 := { stood := { row := paymentsEffectRow, standIns := [], harness := (true, "7702a74b62e7af1919b9c4a402151fe4bb3f2ce75d068c321079ddd807a14d4f"), looks := true }, kinds := [], alts := [], laidByText := true, laidKinds := [.widerDeep], laidTests := true, laidLooks := .later }
def PaymentsEffectCardSaid : Prop := Claim7.holds Tryz.pinned (.plain (OpenSpec.ofChange paymentsEffectSpec)) paymentsEffectCard

/-- THE TIED CARD OF 'fastilaw44.PaymentsAlone'. -/
def paymentsAloneCard : Claim7 := { stood := { row := paymentsAloneRow, standIns := [], harness := (true, "7702a74b62e7af1919b9c4a402151fe4bb3f2ce75d068c321079ddd807a14d4f"), looks := true }, kinds := [], alts := [], laidByText := true, laidKinds := [.widerDeep], laidTests := true, laidLooks := .later }
def PaymentsAloneCardSaid : Prop := Claim7.holds Tryz.pinned (.plain (OpenSpec.ofChange paymentsAloneSpec)) paymentsAloneCard

/-- THE TIED CARD OF 'fastilaw45.ResaleAuction'. -/
def resaleAuctionCard : Claim7 := { stood := { row := resaleAuctionRow, standIns := [], harness := (true, "7702a74b62e7af1919b9c4a402151fe4bb3f2ce75d068c321079ddd807a14d4f"), looks := true }, kinds := [], alts := [], laidByText := true, laidKinds := [.widerDeep], laidTests := true, laidLooks := .later }
def ResaleAuctionCardSaid : Prop := Claim7.holds Tryz.pinned (.plain (OpenSpec.ofChange resaleAuctionSpec)) resaleAuctionCard

/-- THE SECOND FORM's CARD OF 'fastilaw42.BidsSpec'. -/
def bidsSpecUptoCard : Claim7 := { stood := { row := bidsSpecUptoRow, standIns := [], harness := (true, "7702a74b62e7af1919b9c4a402151fe4bb3f2ce75d068c321079ddd807a14d4f"), looks := true }, kinds := [], alts := [], laidByText := true, laidKinds := [.widerDeep], laidTests := true, laidLooks := .later }
def BidsSpecUptoCardSaid : Prop := Claim7.holds Tryz.pinned (.plain (OpenSpec.upto bidsSpecSpec)) bidsSpecUptoCard

/-- THE SECOND FORM's CARD OF 'fastilaw42.BidsValueSpec'. -/
def bidsValueSpecUptoCard : Claim7 := { stood := { row := bidsValueSpecUptoRow, standIns := [], harness := (true, "7702a74b62e7af1919b9c4a402151fe4bb3f2ce75d068c321079ddd807a14d4f"), looks := true }, kinds := [], alts := [], laidByText := true, laidKinds := [.widerDeep], laidTests := true, laidLooks := .later }
def BidsValueSpecUptoCardSaid : Prop := Claim7.holds Tryz.pinned (.plain (OpenSpec.upto bidsValueSpecSpec)) bidsValueSpecUptoCard

/-- THE SECOND FORM's CARD OF 'fastilaw42.BidsSubstitutes'. -/
def bidsSubstitutesUptoCard : Claim7 := { stood := { row := bidsSubstitutesUptoRow, standIns := [], harness := (true, "7702a74b62e7af1919b9c4a402151fe4bb3f2ce75d068c321079ddd807a14d4f"), looks := true }, kinds := [], alts := [], laidByText := true, laidKinds := [.widerDeep], laidTests := true, laidLooks := .later }
def BidsSubstitutesUptoCardSaid : Prop := Claim7.holds Tryz.pinned (.plain (OpenSpec.upto bidsSubstitutesSpec)) bidsSubstitutesUptoCard

/-- THE SECOND FORM's CARD OF 'fastilaw42.BidsSum'. -/
def bidsSumUptoCard : Claim7 := { stood := { row := bidsSumUptoRow, standIns := [], harness := (true, "7702a74b62e7af1919b9c4a402151fe4bb3f2ce75d068c321079ddd807a14d4f"), looks := true }, kinds := [], alts := [], laidByText := true, laidKinds := [.widerDeep], laidTests := true, laidLooks := .later }
def BidsSumUptoCardSaid : Prop := Claim7.holds Tryz.pinned (.plain (OpenSpec.upto bidsSumSpec)) bidsSumUptoCard

/-- THE SECOND FORM's CARD OF 'fastilaw42.BidsCounts'. -/
def bidsCountsUptoCard : Claim7 := { stood := { row := bidsCountsUptoRow, standIns := [], harness := (true, "7702a74b62e7af1919b9c4a402151fe4bb3f2ce75d068c321079ddd807a14d4f"), looks := true }, kinds := [], alts := [], laidByText := true, laidKinds := [.widerDeep], laidTests := true, laidLooks := .later }
def BidsCountsUptoCardSaid : Prop := Claim7.holds Tryz.pinned (.plain (OpenSpec.upto bidsCountsSpec)) bidsCountsUptoCard

/-- THE SECOND FORM's CARD OF 'fastilaw42.BidsLess'. -/
def bidsLessUptoCard : Claim7 := { stood := { row := bidsLessUptoRow, standIns := [], harness := (true, "7702a74b62e7af1919b9c4a402151fe4bb3f2ce75d068c321079ddd807a14d4f"), looks := true }, kinds := [], alts := [], laidByText := true, laidKinds := [.widerDeep], laidTests := true, laidLooks := .later }
def BidsLessUptoCardSaid : Prop := Claim7.holds Tryz.pinned (.plain (OpenSpec.upto bidsLessSpec)) bidsLessUptoCard

/-- THE SECOND FORM's CARD OF 'fastitop.TopAuction'. -/
def topAuctionUptoCard : Claim7 := { stood := { row := topAuctionUptoRow, standIns := [], harness := (true, "7702a74b62e7af1919b9c4a402151fe4bb3f2ce75d068c321079ddd807a14d4f"), looks := true }, kinds := [], alts := [], laidByText := true, laidKinds := [.widerDeep], laidTests := true, laidLooks := .later }
def TopAuctionUptoCardSaid : Prop := Claim7.holds Tryz.pinned (.plain (OpenSpec.upto topAuctionSpec)) topAuctionUptoCard

/-- THE SECOND FORM's CARD OF 'fastilaw45.ResaleSpec'. -/
def resaleSpecUptoCard : Claim7 := { stood := { row := resaleSpecUptoRow, standIns := [], harness := (true, "7702a74b62e7af1919b9c4a402151fe4bb3f2ce75d068c321079ddd807a14d4f"), looks := true }, kinds := [], alts := [], laidByText := true, laidKinds := [.widerDeep], laidTests := true, laidLooks := .later }
def ResaleSpecUptoCardSaid : Prop := Claim7.holds Tryz.pinned (.plain (OpenSpec.upto resaleSpecSpec)) resaleSpecUptoCard

/-- THE SECOND FORM's CARD OF 'fastilaw45.ResaleGain'. -/
def resaleGainUptoCard : Claim7 := { stood := { row := resaleGainUptoRow, standIns := [], harness := (true, "7702a74b62e7af1919b9c4a402151fe4bb3f2ce75d068c321079ddd807a14d4f"), looks := true }, kinds := [], alts := [], laidByText := true, laidKinds := [.widerDeep], laidTests := true, laidLooks := .later }
def ResaleGainUptoCardSaid : Prop := Claim7.holds Tryz.pinned (.plain (OpenSpec.upto resaleGainSpec)) resaleGainUptoCard

/-- THE SECOND FORM's CARD OF 'fastilaw45.ResaleTwice'. -/
def resaleTwiceUptoCard : Claim7 := { stood := { row := resaleTwiceUptoRow, standIns := [], harness := (true, "7702a74b62e7af1919b9c4a402151fe4bb3f2ce75d068c321079ddd807a14d4f"), looks := true }, kinds := [], alts := [], laidByText := true, laidKinds := [.widerDeep], laidTests := true, laidLooks := .later }
def ResaleTwiceUptoCardSaid : Prop := Claim7.holds Tryz.pinned (.plain (OpenSpec.upto resaleTwiceSpec)) resaleTwiceUptoCard

/-- THE SECOND FORM's CARD OF 'fastilaw45.ResaleSame'. -/
def resaleSameUptoCard : Claim7 := { stood := { row := resaleSameUptoRow, standIns := [], harness := (true, "7702a74b62e7af1919b9c4a402151fe4bb3f2ce75d068c321079ddd807a14d4f"), looks := true }, kinds := [], alts := [], laidByText := true, laidKinds := [.widerDeep], laidTests := true, laidLooks := .later }
def ResaleSameUptoCardSaid : Prop := Claim7.holds Tryz.pinned (.plain (OpenSpec.upto resaleSameSpec)) resaleSameUptoCard

/-- THE SECOND FORM's CARD OF 'fastilaw45.ResaleLess'. -/
def resaleLessUptoCard : Claim7 := { stood := { row := resaleLessUptoRow, standIns := [], harness := (true, "7702a74b62e7af1919b9c4a402151fe4bb3f2ce75d068c321079ddd807a14d4f"), looks := true }, kinds := [], alts := [], laidByText := true, laidKinds := [.widerDeep], laidTests := true, laidLooks := .later }
def ResaleLessUptoCardSaid : Prop := Claim7.holds Tryz.pinned (.plain (OpenSpec.upto resaleLessSpec)) resaleLessUptoCard

/-- THE SECOND FORM's CARD OF 'fastilaw43.AllocateSpec'. -/
def allocateSpecUptoCard : Claim7 := { stood := { row := allocateSpecUptoRow, standIns := [], harness := (true, "7702a74b62e7af1919b9c4a402151fe4bb3f2ce75d068c321079ddd807a14d4f"), looks := true }, kinds := [], alts := [], laidByText := true, laidKinds := [.widerDeep], laidTests := true, laidLooks := .later }
def AllocateSpecUptoCardSaid : Prop := Claim7.holds Tryz.pinned (.plain (OpenSpec.upto allocateSpecSpec)) allocateSpecUptoCard

/-- THE SECOND FORM's CARD OF 'fastilaw43.AllocateBoundSpec'. -/
def allocateBoundSpecUptoCard : Claim7 := { stood := { row := allocateBoundSpecUptoRow, standIns := [], harness := (true, "7702a74b62e7af1919b9c4a402151fe4bb3f2ce75d068c321079ddd807a14d4f"), looks := true }, kinds := [], alts := [], laidByText := true, laidKinds := [.widerDeep], laidTests := true, laidLooks := .later }
def AllocateBoundSpecUptoCardSaid : Prop := Claim7.holds Tryz.pinned (.plain (OpenSpec.upto allocateBoundSpecSpec)) allocateBoundSpecUptoCard

/-- THE SECOND FORM's CARD OF 'fastilaw43.AllocateBounded'. -/
def allocateBoundedUptoCard : Claim7 := { stood := { row := allocateBoundedUptoRow, standIns := [], harness := (true, "7702a74b62e7af1919b9c4a402151fe4bb3f2ce75d068c321079ddd807a14d4f"), looks := true }, kinds := [], alts := [], laidByText := true, laidKinds := [.widerDeep], laidTests := true, laidLooks := .later }
def AllocateBoundedUptoCardSaid : Prop := Claim7.holds Tryz.pinned (.plain (OpenSpec.upto allocateBoundedSpec)) allocateBoundedUptoCard

/-- THE SECOND FORM's CARD OF 'fastilaw43.AllocateMore'. -/
def allocateMoreUptoCard : Claim7 := { stood := { row := allocateMoreUptoRow, standIns := [], harness := (true, "7702a74b62e7af1919b9c4a402151fe4bb3f2ce75d068c321079ddd807a14d4f"), looks := true }, kinds := [], alts := [], laidByText := true, laidKinds := [.widerDeep], laidTests := true, laidLooks := .later }
def AllocateMoreUptoCardSaid : Prop := Claim7.holds Tryz.pinned (.plain (OpenSpec.upto allocateMoreSpec)) allocateMoreUptoCard

/-- THE SECOND FORM's CARD OF 'fastilaw43.AllocateBest'. -/
def allocateBestUptoCard : Claim7 := { stood := { row := allocateBestUptoRow, standIns := [], harness := (true, "7702a74b62e7af1919b9c4a402151fe4bb3f2ce75d068c321079ddd807a14d4f"), looks := true }, kinds := [], alts := [], laidByText := true, laidKinds := [.widerDeep], laidTests := true, laidLooks := .later }
def AllocateBestUptoCardSaid : Prop := Claim7.holds Tryz.pinned (.plain (OpenSpec.upto allocateBestSpec)) allocateBestUptoCard

/-- THE SECOND FORM's CARD OF 'fastilaw43.AllocateOne'. -/
def allocateOneUptoCard : Claim7 := { stood := { row := allocateOneUptoRow, standIns := [], harness := (true, "7702a74b62e7af1919b9c4a402151fe4bb3f2ce75d068c321079ddd807a14d4f"), looks := true }, kinds := [], alts := [], laidByText := true, laidKinds := [.widerDeep], laidTests := true, laidLooks := .later }
def AllocateOneUptoCardSaid : Prop := Claim7.holds Tryz.pinned (.plain (OpenSpec.upto allocateOneSpec)) allocateOneUptoCard

/-- THE SECOND FORM's CARD OF 'fastilaw44.PaymentsSpec'. -/
def paymentsSpecUptoCard : Claim7 := { stood := { row := paymentsSpecUptoRow, standIns := [], harness := (true, "7702a74b62e7af1919b9c4a402151fe4bb3f2ce75d068c321079ddd807a14d4f"), looks := true }, kinds := [], alts := [], laidByText := true, laidKinds := [.widerDeep], laidTests := true, laidLooks := .later }
def PaymentsSpecUptoCardSaid : Prop := Claim7.holds Tryz.pinned (.plain (OpenSpec.upto paymentsSpecSpec)) paymentsSpecUptoCard

/-- THE SECOND FORM's CARD OF 'fastilaw44.PaymentsGainSpec'. -/
def paymentsGainSpecUptoCard : Claim7 := { stood := { row := paymentsGainSpecUptoRow, standIns := [], harness := (true, "7702a74b62e7af1919b9c4a402151fe4bb3f2ce75d068c321079ddd807a14d4f"), looks := true }, kinds := [], alts := [], laidByText := true, laidKinds := [.widerDeep], laidTests := true, laidLooks := .later }
def PaymentsGainSpecUptoCardSaid : Prop := Claim7.holds Tryz.pinned (.plain (OpenSpec.upto paymentsGainSpecSpec)) paymentsGainSpecUptoCard

/-- THE SECOND FORM's CARD OF 'fastilaw44.PaymentsTruth'. -/
def paymentsTruthUptoCard : Claim7 := { stood := { row := paymentsTruthUptoRow, standIns := [], harness := (true, "7702a74b62e7af1919b9c4a402151fe4bb3f2ce75d068c321079ddd807a14d4f"), looks := true }, kinds := [], alts := [], laidByText := true, laidKinds := [.widerDeep], laidTests := true, laidLooks := .later }
def PaymentsTruthUptoCardSaid : Prop := Claim7.holds Tryz.pinned (.plain (OpenSpec.upto paymentsTruthSpec)) paymentsTruthUptoCard

/-- THE SECOND FORM's CARD OF 'fastilaw44.PaymentsEffect'. -/
def paymentsEffectUptoCard : Claim7 := { stood := { row := paymentsEffectUptoRow, standIns := [], harness := (true, "7702a74b62e7af1919b9c4a402151fe4bb3f2ce75d068c321079ddd807a14d4f"), looks := true }, kinds := [], alts := [], laidByText := true, laidKinds := [.widerDeep], laidTests := true, laidLooks := .later }
def PaymentsEffectUptoCardSaid : Prop := Claim7.holds Tryz.pinned (.plain (OpenSpec.upto paymentsEffectSpec)) paymentsEffectUptoCard

/-- THE SECOND FORM's CARD OF 'fastilaw44.PaymentsAlone'. -/
def paymentsAloneUptoCard : Claim7 := { stood := { row := paymentsAloneUptoRow, standIns := [], harness := (true, "7702a74b62e7af1919b9c4a402151fe4bb3f2ce75d068c321079ddd807a14d4f"), looks := true }, kinds := [], alts := [], laidByText := true, laidKinds := [.widerDeep], laidTests := true, laidLooks := .later }
def PaymentsAloneUptoCardSaid : Prop := Claim7.holds Tryz.pinned (.plain (OpenSpec.upto paymentsAloneSpec)) paymentsAloneUptoCard

/-- THE SECOND FORM's CARD OF 'fastilaw45.ResaleAuction'. -/
def resaleAuctionUptoCard : Claim7 := { stood := { row := resaleAuctionUptoRow, standIns := [], harness := (true, "7702a74b62e7af1919b9c4a402151fe4bb3f2ce75d068c321079ddd807a14d4f"), looks := true }, kinds := [], alts := [], laidByText := true, laidKinds := [.widerDeep], laidTests := true, laidLooks := .later }
def ResaleAuctionUptoCardSaid : Prop := Claim7.holds Tryz.pinned (.plain (OpenSpec.upto resaleAuctionSpec)) resaleAuctionUptoCard
end Rows
end Go.Proofs.YtfffbdmdllgalaaGreatDoor
