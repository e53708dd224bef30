import Derived.Test.YtdipecpdjeehoaaGreatRows
import Derived.JoinedOf
import Derived.ProofKit
namespace Go.Proofs.YtdipecpdjeehoaaGreat
theorem laidOut:laidOutB Tryz.prog=true:=by kernel_rfl
theorem mapsLaid:mapsRowed Tryz.prog=true:=by kernel_rfl
end Go.Proofs.YtdipecpdjeehoaaGreat
