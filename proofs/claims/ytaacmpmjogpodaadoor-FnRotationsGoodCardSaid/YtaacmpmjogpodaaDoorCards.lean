/-
  DERIVED. GIVEN WITH THE SEED: THE CARDS: each row of YtaacmpmjogpodaaDoorRows.lean that lists a variable, with what it lists TIED to the program's text (the seventh form; the later family's looks); each row that meets fmt, with fmt's text TOLD by the authors' own Lean function (tested against real Go, not proved from fmt's source: count such statements apart). THE CARD IS WHAT COUNTS. Prove the row's statement (the work); the ties are given (YtaacmpmjogpodaaDoorTie.lean); close each card by the builder's one call (the guide's Derived/Test/ToyasCard.lean, 'card_holds'). Laid BY PROGRAM, IN A SANDBOX (cutbox-door.mjs). By AI agents, Wed Nov 11 2026. No macro, syntax, notation, axiom, sorry.
-/
import Derived.Test.YtaacmpmjogpodaaDoorRows
import GoSem.ClaimSeven
namespace Go.Proofs.YtaacmpmjogpodaaDoor
namespace Rows

/-- THE TIED CARD OF 'laws.FnExactAreApart'. -/
def fnExactAreApartCard : Claim7 := { stood := { row := fnExactAreApartRow, standIns := [], harness := (true, "b7dcaf00ae4d966fdf72260f50a639ff6556beb4e05ca7d98b3f8ca4bac38d6a"), looks := false }, kinds := [], alts := [], laidByText := true, laidKinds := [.data, .pinned], laidTests := true, laidLooks := .later }
def FnExactAreApartCardSaid : Prop := Claim7.holds Tryd.pinned (.plain (OpenSpec.ofChange fnExactAreApartSpec)) fnExactAreApartCard

/-- THE TIED CARD OF 'laws.FnRotationsGood'. -/
def fnRotationsGoodCard : Claim7 := { stood := { row := fnRotationsGoodRow, standIns := [], harness := (true, "b7dcaf00ae4d966fdf72260f50a639ff6556beb4e05ca7d98b3f8ca4bac38d6a"), looks := false }, kinds := [], alts := [], laidByText := true, laidKinds := [.data, .pinned], laidTests := true, laidLooks := .later }
def FnRotationsGoodCardSaid : Prop := Claim7.holds Tryd.pinned (.plain (OpenSpec.ofChange fnRotationsGoodSpec)) fnRotationsGoodCard

/-- THE TIED CARD OF 'laws.FnWaysSwap'. -/
def fnWaysSwapCard : Claim7 := { stood := { row := fnWaysSwapRow, standIns := [], harness := (true, "b7dcaf00ae4d966fdf72260f50a639ff6556beb4e05ca7d98b3f8ca4bac38d6a"), looks := false }, kinds := [], alts := [], laidByText := true, laidKinds := [.data, .pinned], laidTests := true, laidLooks := .later }
def FnWaysSwapCardSaid : Prop := Claim7.holds Tryd.pinned (.plain (OpenSpec.ofChange fnWaysSwapSpec)) fnWaysSwapCard

/-- THE SECOND FORM's CARD OF 'laws.FnExactAreApart'. -/
def fnExactAreApartUptoCard : Claim7 := { stood := { row := fnExactAreApartUptoRow, standIns := [], harness := (true, "b7dcaf00ae4d966fdf72260f50a639ff6556beb4e05ca7d98b3f8ca4bac38d6a"), looks := false }, kinds := [], alts := [], laidByText := true, laidKinds := [.data, .pinned], laidTests := true, laidLooks := .later }
def FnExactAreApartUptoCardSaid : Prop := Claim7.holds Tryd.pinned (.plain (OpenSpec.upto fnExactAreApartSpec)) fnExactAreApartUptoCard

/-- THE SECOND FORM's CARD OF 'laws.FnRotationsGood'. -/
def fnRotationsGoodUptoCard : Claim7 := { stood := { row := fnRotationsGoodUptoRow, standIns := [], harness := (true, "b7dcaf00ae4d966fdf72260f50a639ff6556beb4e05ca7d98b3f8ca4bac38d6a"), looks := false }, kinds := [], alts := [], laidByText := true, laidKinds := [.data, .pinned], laidTests := true, laidLooks := .later }
def FnRotationsGoodUptoCardSaid : Prop := Claim7.holds Tryd.pinned (.plain (OpenSpec.upto fnRotationsGoodSpec)) fnRotationsGoodUptoCard

/-- THE SECOND FORM's CARD OF 'laws.FnWaysSwap'. -/
def fnWaysSwapUptoCard : Claim7 := { stood := { row := fnWaysSwapUptoRow, standIns := [], harness := (true, "b7dcaf00ae4d966fdf72260f50a639ff6556beb4e05ca7d98b3f8ca4bac38d6a"), looks := false }, kinds := [], alts := [], laidByText := true, laidKinds := [.data, .pinned], laidTests := true, laidLooks := .later }
def FnWaysSwapUptoCardSaid : Prop := Claim7.holds Tryd.pinned (.plain (OpenSpec.upto fnWaysSwapSpec)) fnWaysSwapUptoCard
end Rows
end Go.Proofs.YtaacmpmjogpodaaDoor
