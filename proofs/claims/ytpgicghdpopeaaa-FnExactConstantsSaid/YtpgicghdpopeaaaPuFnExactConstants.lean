/- The constants of the program are the document's: by computing. -/
import Derived.Test.YtpgicghdpopeaaaP10
namespace Go.Proofs.Ytpgicghdpopeaaa.Pu
open Go.RowKit Go.Proofs.Ytpgicghdpopeaaa.P Go.Proofs.YtpgicghdpopeaaaW.PrintWords
theorem FnExactConstants : ∃ _k : Nat, laws_FnExactConstants.f = some true := ⟨0, by rfl⟩
end Go.Proofs.Ytpgicghdpopeaaa.Pu
