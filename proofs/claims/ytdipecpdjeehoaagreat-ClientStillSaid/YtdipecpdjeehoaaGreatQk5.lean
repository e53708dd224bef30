import Derived.Test.YtdipecpdjeehoaaGreatRows
import Derived.JoinedOf
import Derived.ProofKit
namespace Go.Proofs.YtdipecpdjeehoaaGreat
theorem heard:Tryz.prog.stopsHeard=true:=by kernel_rfl
theorem plainK:Tryz.prog.plainKeys=false:=by kernel_rfl
end Go.Proofs.YtdipecpdjeehoaaGreat
