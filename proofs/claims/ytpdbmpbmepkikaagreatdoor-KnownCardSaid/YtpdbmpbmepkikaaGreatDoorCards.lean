/-
  DERIVED. GIVEN WITH THE SEED: THE CARDS: each row of YtpdbmpbmepkikaaGreatDoorRows.lean that lists a variable, with what it lists TIED to the program's text (the seventh form; the later family's looks); each row that meets fmt, with fmt's text TOLD by the authors' own Lean function (tested against real Go, not proved from fmt's source: count such statements apart). THE CARD IS WHAT COUNTS. Prove the row's statement (the work); the ties are given (YtpdbmpbmepkikaaGreatDoorTie.lean); close each card by the builder's one call (the guide's Derived/Test/ToyasCard.lean, 'card_holds'). Laid BY PROGRAM, IN A SANDBOX (cutbox-door.mjs). By AI agents, Wed Nov 11 2026. No macro, syntax, notation, axiom, sorry.
-/
import Derived.Test.YtpdbmpbmepkikaaGreatDoorRows
import GoSem.ClaimSeven
namespace Go.Proofs.YtpdbmpbmepkikaaGreatDoor
namespace Rows

/-- THE TIED CARD OF 'contactskeep.Digests'. -/
def digestsCard : Claim7 := { stood := { row := digestsRow, standIns := [], harness := (true, "04e7a162b24e94a4dec71da376639edfd8b76e999e2ce65f3d5afc609319b963"), looks := true }, kinds := [], alts := [], goes := true, laidByText := true, laidKinds := [.data, .data, .data, .data, .handle, .pinned], laidTests := true, laidLooks := .later }
def DigestsCardSaid : Prop := Claim7.holds Tryz.pinned (.plain (OpenSpec.ofChange digestsSpec)) digestsCard

/-- THE TIED CARD OF 'contactskeep.Alike'. -/
def alikeCard : Claim7 := { stood := { row := alikeRow, standIns := [], harness := (true, "04e7a162b24e94a4dec71da376639edfd8b76e999e2ce65f3d5afc609319b963"), looks := true }, kinds := [], alts := [], goes := true, laidByText := true, laidKinds := [.data, .data, .data, .data, .handle, .pinned], laidTests := true, laidLooks := .later }
def AlikeCardSaid : Prop := Claim7.holds Tryz.pinned (.plain (OpenSpec.ofChange alikeSpec)) alikeCard

/-- THE TIED CARD OF 'contactskeep.Again'. -/
def againCard : Claim7 := { stood := { row := againRow, standIns := [], harness := (true, "04e7a162b24e94a4dec71da376639edfd8b76e999e2ce65f3d5afc609319b963"), looks := true }, kinds := [], alts := [], goes := true, laidByText := true, laidKinds := [.data, .data, .data, .data, .handle, .pinned], laidTests := true, laidLooks := .later }
def AgainCardSaid : Prop := Claim7.holds Tryz.pinned (.plain (OpenSpec.ofChange againSpec)) againCard

/-- THE TIED CARD OF 'contactskeep.Broken'. -/
def brokenCard : Claim7 := { stood := { row := brokenRow, standIns := [], harness := (true, "04e7a162b24e94a4dec71da376639edfd8b76e999e2ce65f3d5afc609319b963"), looks := true }, kinds := [], alts := [], goes := true, laidByText := true, laidKinds := [.data, .data, .data, .data, .handle, .pinned], laidTests := true, laidLooks := .later }
def BrokenCardSaid : Prop := Claim7.holds Tryz.pinned (.plain (OpenSpec.ofChange brokenSpec)) brokenCard

/-- THE TIED CARD OF 'contactskeep.Last'. -/
def lastCard : Claim7 := { stood := { row := lastRow, standIns := [], harness := (true, "04e7a162b24e94a4dec71da376639edfd8b76e999e2ce65f3d5afc609319b963"), looks := true }, kinds := [], alts := [], goes := true, laidByText := true, laidKinds := [.data, .data, .data, .data, .handle, .pinned], laidTests := true, laidLooks := .later }
def LastCardSaid : Prop := Claim7.holds Tryz.pinned (.plain (OpenSpec.ofChange lastSpec)) lastCard

/-- THE TIED CARD OF 'contactskeep.Known'. -/
def knownCard : Claim7 := { stood := { row := knownRow, standIns := [], harness := (true, "04e7a162b24e94a4dec71da376639edfd8b76e999e2ce65f3d5afc609319b963"), looks := true }, kinds := [], alts := [], goes := true, laidByText := true, laidKinds := [.data, .data, .data, .data, .handle, .pinned], laidTests := true, laidLooks := .later }
def KnownCardSaid : Prop := Claim7.holds Tryz.pinned (.plain (OpenSpec.ofChange knownSpec)) knownCard

/-- THE TIED CARD OF 'contactslaw.Edits'. -/
def editsCard : Claim7 := { stood := { row := editsRow, standIns := [], harness := (true, "04e7a162b24e94a4dec71da376639edfd8b76e999e2ce65f3d5afc609319b963"), looks := true }, kinds := [], alts := [], goes := true, laidByText := true, laidKinds := [.data, .data, .data, .data, .handle, .pinned], laidTests := true, laidLooks := .later }
def EditsCardSaid : Prop := Claim7.holds Tryz.pinned (.plain (OpenSpec.ofChange editsSpec)) editsCard

/-- THE TIED CARD OF 'contactslaw.Books'. -/
def booksCard : Claim7 := { stood := { row := booksRow, standIns := [], harness := (true, "04e7a162b24e94a4dec71da376639edfd8b76e999e2ce65f3d5afc609319b963"), looks := true }, kinds := [], alts := [], goes := true, laidByText := true, laidKinds := [.data, .data, .data, .data, .handle, .pinned], laidTests := true, laidLooks := .later }
def BooksCardSaid : Prop := Claim7.holds Tryz.pinned (.plain (OpenSpec.ofChange booksSpec)) booksCard

/-- THE TIED CARD OF 'contactslaw.Saves'. -/
def savesCard : Claim7 := { stood := { row := savesRow, standIns := [], harness := (true, "04e7a162b24e94a4dec71da376639edfd8b76e999e2ce65f3d5afc609319b963"), looks := true }, kinds := [], alts := [], goes := true, laidByText := true, laidKinds := [.data, .data, .data, .data, .handle, .pinned], laidTests := true, laidLooks := .later }
def SavesCardSaid : Prop := Claim7.holds Tryz.pinned (.plain (OpenSpec.ofChange savesSpec)) savesCard

/-- THE TIED CARD OF 'contactslaw.Sessions'. -/
def sessionsCard : Claim7 := { stood := { row := sessionsRow, standIns := [], harness := (true, "04e7a162b24e94a4dec71da376639edfd8b76e999e2ce65f3d5afc609319b963"), looks := true }, kinds := [], alts := [], goes := true, laidByText := true, laidKinds := [.data, .data, .data, .data, .handle, .pinned], laidTests := true, laidLooks := .later }
def SessionsCardSaid : Prop := Claim7.holds Tryz.pinned (.plain (OpenSpec.ofChange sessionsSpec)) sessionsCard

/-- THE TIED CARD OF 'contactslaw.All'. -/
def allCard : Claim7 := { stood := { row := allRow, standIns := [], harness := (true, "04e7a162b24e94a4dec71da376639edfd8b76e999e2ce65f3d5afc609319b963"), looks := true }, kinds := [], alts := [], goes := true, laidByText := true, laidKinds := [.data, .data, .data, .data, .handle, .pinned], laidTests := true, laidLooks := .later }
def AllCardSaid : Prop := Claim7.holds Tryz.pinned (.plain (OpenSpec.ofChange allSpec)) allCard

/-- THE SECOND FORM's CARD OF 'contactskeep.Digests'. -/
def digestsUptoCard : Claim7 := { stood := { row := digestsUptoRow, standIns := [], harness := (true, "04e7a162b24e94a4dec71da376639edfd8b76e999e2ce65f3d5afc609319b963"), looks := true }, kinds := [], alts := [], goes := true, laidByText := true, laidKinds := [.data, .data, .data, .data, .handle, .pinned], laidTests := true, laidLooks := .later }
def DigestsUptoCardSaid : Prop := Claim7.holds Tryz.pinned (.plain (OpenSpec.upto digestsSpec)) digestsUptoCard

/-- THE SECOND FORM's CARD OF 'contactskeep.Alike'. -/
def alikeUptoCard : Claim7 := { stood := { row := alikeUptoRow, standIns := [], harness := (true, "04e7a162b24e94a4dec71da376639edfd8b76e999e2ce65f3d5afc609319b963"), looks := true }, kinds := [], alts := [], goes := true, laidByText := true, laidKinds := [.data, .data, .data, .data, .handle, .pinned], laidTests := true, laidLooks := .later }
def AlikeUptoCardSaid : Prop := Claim7.holds Tryz.pinned (.plain (OpenSpec.upto alikeSpec)) alikeUptoCard

/-- THE SECOND FORM's CARD OF 'contactskeep.Again'. -/
def againUptoCard : Claim7 := { stood := { row := againUptoRow, standIns := [], harness := (true, "04e7a162b24e94a4dec71da376639edfd8b76e999e2ce65f3d5afc609319b963"), looks := true }, kinds := [], alts := [], goes := true, laidByText := true, laidKinds := [.data, .data, .data, .data, .handle, .pinned], laidTests := true, laidLooks := .later }
def AgainUptoCardSaid : Prop := Claim7.holds Tryz.pinned (.plain (OpenSpec.upto againSpec)) againUptoCard

/-- THE SECOND FORM's CARD OF 'contactskeep.Broken'. -/
def brokenUptoCard : Claim7 := { stood := { row := brokenUptoRow, standIns := [], harness := (true, "04e7a162b24e94a4dec71da376639edfd8b76e999e2ce65f3d5afc609319b963"), looks := true }, kinds := [], alts := [], goes := true, laidByText := true, laidKinds := [.data, .data, .data, .data, .handle, .pinned], laidTests := true, laidLooks := .later }
def BrokenUptoCardSaid : Prop := Claim7.holds Tryz.pinned (.plain (OpenSpec.upto brokenSpec)) brokenUptoCard

/-- THE SECOND FORM's CARD OF 'contactskeep.Last'. -/
def lastUptoCard : Claim7 := { stood := { row := lastUptoRow, standIns := [], harness := (true, "04e7a162b24e94a4dec71da376639edfd8b76e999e2ce65f3d5afc609319b963"), looks := true }, kinds := [], alts := [], goes := true, laidByText := true, laidKinds := [.data, .data, .data, .data, .handle, .pinned], laidTests := true, laidLooks := .later }
def LastUptoCardSaid : Prop := Claim7.holds Tryz.pinned (.plain (OpenSpec.upto lastSpec)) lastUptoCard

/-- THE SECOND FORM's CARD OF 'contactskeep.Known'. -/
def knownUptoCard : Claim7 := { stood := { row := knownUptoRow, standIns := [], harness := (true, "04e7a162b24e94a4dec71da376639edfd8b76e999e2ce65f3d5afc609319b963"), looks := true }, kinds := [], alts := [], goes := true, laidByText := true, laidKinds := [.data, .data, .data, .data, .handle, .pinned], laidTests := true, laidLooks := .later }
def KnownUptoCardSaid : Prop := Claim7.holds Tryz.pinned (.plain (OpenSpec.upto knownSpec)) knownUptoCard

/-- THE SECOND FORM's CARD OF 'contactslaw.Edits'. -/
def editsUptoCard : Claim7 := { stood := { row := editsUptoRow, standIns := [], harness := (true, "04e7a162b24e94a4dec71da376639edfd8b76e999e2ce65f3d5afc609319b963"), looks := true }, kinds := [], alts := [], goes := true, laidByText := true, laidKinds := [.data, .data, .data, .data, .handle, .pinned], laidTests := true, laidLooks := .later }
def EditsUptoCardSaid : Prop := Claim7.holds Tryz.pinned (.plain (OpenSpec.upto editsSpec)) editsUptoCard

/-- THE SECOND FORM's CARD OF 'contactslaw.Books'. -/
def booksUptoCard : Claim7 := { stood := { row := booksUptoRow, standIns := [], harness := (true, "04e7a162b24e94a4dec71da376639edfd8b76e999e2ce65f3d5afc609319b963"), looks := true }, kinds := [], alts := [], goes := true, laidByText := true, laidKinds := [.data, .data, .data, .data, .handle, .pinned], laidTests := true, laidLooks := .later }
def BooksUptoCardSaid : Prop := Claim7.holds Tryz.pinned (.plain (OpenSpec.upto booksSpec)) booksUptoCard

/-- THE SECOND FORM's CARD OF 'contactslaw.Saves'. -/
def savesUptoCard : Claim7 := { stood := { row := savesUptoRow, standIns := [], harness := (true, "04e7a162b24e94a4dec71da376639edfd8b76e999e2ce65f3d5afc609319b963"), looks := true }, kinds := [], alts := [], goes := true, laidByText := true, laidKinds := [.data, .data, .data, .data, .handle, .pinned], laidTests := true, laidLooks := .later }
def SavesUptoCardSaid : Prop := Claim7.holds Tryz.pinned (.plain (OpenSpec.upto savesSpec)) savesUptoCard

/-- THE SECOND FORM's CARD OF 'contactslaw.Sessions'. -/
def sessionsUptoCard : Claim7 := { stood := { row := sessionsUptoRow, standIns := [], harness := (true, "04e7a162b24e94a4dec71da376639edfd8b76e999e2ce65f3d5afc609319b963"), looks := true }, kinds := [], alts := [], goes := true, laidByText := true, laidKinds := [.data, .data, .data, .data, .handle, .pinned], laidTests := true, laidLooks := .later }
def SessionsUptoCardSaid : Prop := Claim7.holds Tryz.pinned (.plain (OpenSpec.upto sessionsSpec)) sessionsUptoCard

/-- THE SECOND FORM's CARD OF 'contactslaw.All'. -/
def allUptoCard : Claim7 := { stood := { row := allUptoRow, standIns := [], harness := (true, "04e7a162b24e94a4dec71da376639edfd8b76e999e2ce65f3d5afc609319b963"), looks := true }, kinds := [], alts := [], goes := true, laidByText := true, laidKinds := [.data, .data, .data, .data, .handle, .pinned], laidTests := true, laidLooks := .later }
def AllUptoCardSaid : Prop := Claim7.holds Tryz.pinned (.plain (OpenSpec.upto allSpec)) allUptoCard
end Rows
end Go.Proofs.YtpdbmpbmepkikaaGreatDoor
