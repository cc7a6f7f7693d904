/-
  DERIVED. GIVEN WITH THE SEED: THE CARDS: each row of YtaggkglfnbcjdaaGreatDoorRows.lean that lists a variable, with what it lists TIED to the program's text (the seventh form; the later family's looks); each row that meets fmt, with fmt's text TOLD by the authors' own Lean function (tested against real Go, not proved from fmt's source: count such statements apart). THE CARD IS WHAT COUNTS. Prove the row's statement (the work); the ties are given (YtaggkglfnbcjdaaGreatDoorTie.lean); close each card by the builder's one call (the guide's Derived/Test/ToyasCard.lean, 'card_holds'). Laid BY PROGRAM, IN A SANDBOX (cutbox-door.mjs). By AI agents, Wed Nov 11 2026. No macro, syntax, notation, axiom, sorry.
-/
import Derived.Test.YtaggkglfnbcjdaaGreatDoorRows
import GoSem.ClaimSeven
namespace Go.Proofs.YtaggkglfnbcjdaaGreatDoor
namespace Rows

/-- THE TIED CARD OF 'dumblaw2.CacheEntries'. -/
def cacheEntriesCard : Claim7 := { stood := { row := cacheEntriesRow, standIns := [], harness := (true, "afc70065ce876ab72ea83b39b970d79a0d0c5e4e7ed55960f3982276e50bed06"), looks := false }, kinds := [], alts := [], laidByText := true, laidKinds := [.data, .data, .data, .data, .pinned], laidTests := true, laidLooks := .later }
def CacheEntriesCardSaid : Prop := Claim7.holds Tryz.pinned (.plain (OpenSpec.ofChange cacheEntriesSpec)) cacheEntriesCard

/-- THE SECOND FORM's CARD OF 'dumblaw2.CacheEntries'. -/
def cacheEntriesUptoCard : Claim7 := { stood := { row := cacheEntriesUptoRow, standIns := [], harness := (true, "afc70065ce876ab72ea83b39b970d79a0d0c5e4e7ed55960f3982276e50bed06"), looks := false }, kinds := [], alts := [], laidByText := true, laidKinds := [.data, .data, .data, .data, .pinned], laidTests := true, laidLooks := .later }
def CacheEntriesUptoCardSaid : Prop := Claim7.holds Tryz.pinned (.plain (OpenSpec.upto cacheEntriesSpec)) cacheEntriesUptoCard
end Rows
end Go.Proofs.YtaggkglfnbcjdaaGreatDoor
