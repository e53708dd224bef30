import Derived.Test.YtdipecpdjeehoaaGreatRows
import Derived.JoinedOf
import Derived.ProofKit
namespace Go.Proofs.YtdipecpdjeehoaaGreat
theorem in5:Tryz.prog.inPlace 5=Rows.clientStillRow.inPlace:=by kernel_rfl
theorem unf5:Tryz.prog.unfollowed 5=true:=by kernel_rfl
theorem rec5:Tryz.prog.recurses 5=true:=by kernel_rfl
theorem named5:Tryz.prog.varsNamed 5=[]:=by kernel_rfl
end Go.Proofs.YtdipecpdjeehoaaGreat
