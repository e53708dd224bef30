import Derived.Test.YtdipecpdjeehoaaGreatRows
import Derived.JoinedOf
import Derived.ProofKit
namespace Go.Proofs.YtdipecpdjeehoaaGreat
theorem makeIs:Tryz.prog.make=some Rows.clientAgainRow.make:=by kernel_rfl
end Go.Proofs.YtdipecpdjeehoaaGreat
