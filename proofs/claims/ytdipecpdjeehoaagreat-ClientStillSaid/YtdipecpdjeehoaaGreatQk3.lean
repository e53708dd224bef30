import Derived.Test.YtdipecpdjeehoaaGreatRows
import Derived.JoinedOf
import Derived.ProofKit
namespace Go.Proofs.YtdipecpdjeehoaaGreat
theorem liftsAre:Tryz.prog.liftsFinal=Rows.clientAgainRow.lifted:=by kernel_rfl
end Go.Proofs.YtdipecpdjeehoaaGreat
