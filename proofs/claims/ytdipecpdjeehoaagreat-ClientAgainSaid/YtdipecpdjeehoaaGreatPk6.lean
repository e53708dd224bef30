import Derived.Test.YtdipecpdjeehoaaGreatRows
import Derived.JoinedOf
import Derived.ProofKit
namespace Go.Proofs.YtdipecpdjeehoaaGreat
theorem in4:Tryz.prog.inPlace 4=Rows.clientAgainRow.inPlace:=by kernel_rfl
theorem unf4:Tryz.prog.unfollowed 4=true:=by kernel_rfl
theorem rec4:Tryz.prog.recurses 4=true:=by kernel_rfl
theorem named4:Tryz.prog.varsNamed 4=[]:=by kernel_rfl
end Go.Proofs.YtdipecpdjeehoaaGreat
