/- Whether a configuration is plain, or why not, and its numbers, are the document's. -/
import Derived.Test.YtofabmdndoaegaaSConfPlain
import Derived.Test.YtofabmdndoaegaaConfLib2
import Derived.Test.YtofabmdndoaegaaXx11
set_option linter.unusedVariables false
set_option linter.unusedSimpArgs false
namespace Go.Proofs.Ytofabmdndoaegaa.confPlain
open Go.RowKit Go.Proofs.Ytofabmdndoaegaa.X Go.Proofs.YtofabmdndoaegaaW.PrintWords Go.Proofs.Ytofabmdndoaegaa.ConfLib
theorem known : bellwetherlaw03_known.f 1000 = some true := by decide +kernel
theorem pure : Pure := by
  rintro ⟨n, f, d, p, r, dr, o, s, m, fr, t⟩ _
  refine ⟨1000, ?_⟩
  unfold bellwetherlaw03_ConfPlain.f
  simp only [plain_at n f d p r dr o s m fr t (show 10 < 1000 by decide), ref_plain_at n f d p r dr o s m fr t (show 700 < 1000 by decide), rounds_at n f d p r dr o s m fr t (show 10 < 1000 by decide), ref_rounds_at n f d p r dr o s m fr t (show 700 < 1000 by decide), length_at n f d p r dr o s m fr t (show 10 < 1000 by decide), ref_length_at n f d p r dr o s m fr t (show 700 < 1000 by decide), bits_at n f d p r dr o s m fr t (show 10 < 1000 by decide), ref_bits_at n f d p r dr o s m fr t (show 700 < 1000 by decide), known, Option.bind_some, if_true]
end Go.Proofs.Ytofabmdndoaegaa.confPlain
