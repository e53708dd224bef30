import Derived.Test.YtdipecpdjeehoaaGreatRows
import Derived.JoinedOf
import Derived.ProofKit
namespace Go.Proofs.YtdipecpdjeehoaaGreat
theorem mayIn:Tryz.prog.mayEnter=true:=by kernel_rfl
end Go.Proofs.YtdipecpdjeehoaaGreat
