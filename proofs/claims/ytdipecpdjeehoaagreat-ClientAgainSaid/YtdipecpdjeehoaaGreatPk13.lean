import Derived.Test.YtdipecpdjeehoaaGreatRows
import Derived.Test.YtdipecpdjeehoaaGreatPk12
import Derived.Test.YtdipecpdjeehoaaGreatPk1
import Derived.Test.YtdipecpdjeehoaaGreatPk2
import Derived.Test.YtdipecpdjeehoaaGreatPk3
import Derived.Test.YtdipecpdjeehoaaGreatPk4
import Derived.Test.YtdipecpdjeehoaaGreatPk5
import Derived.Test.YtdipecpdjeehoaaGreatPk6
open Go.Proofs
namespace Go.Proofs.YtdipecpdjeehoaaGreat
open Go.ChangeShapes Go.WideShapes Go.ChangeAt Go.RowKit Go.Lk
theorem own:ownKnob Tryz.prog.godebug=none:=by kernel_rfl
set_option maxRecDepth 100000 in
theorem again_lifted (os:Os) (started:os.Started) (H:Type) (enc:TypeId × Value→H) :
    ReturnsInHanded {} Tryz.checked os 4 .any (Rows.clientAgainSpec.pre6 enc Tryz.prog Tryz.f4 Rows.clientAgainRow.domain false) (Rows.clientAgainSpec.post enc Tryz.prog Tryz.f4 false true false false):=by
  refine returnsInHanded_of_change (C:=Tryz.checked) own started (by kernel_rfl) Tryz.func4
    (ChangeSpec.witness6 (enc:=enc) (C:=Tryz.checked) false ⟨#[],#[.slice none 0 0,.int .i64 0],[]⟩ 8 (by kernel_rfl) (by kernel_rfl) (by kernel_rfl) (by kernel_rfl)) ?_
  intro W base args ds gs before hval0 hW _ _
  have hval:∀ (j:Nat) t v,Tryz.f4.params[j]? = some t→args[j]? = some v→Value.okWide Tryz.prog W .any base t v:=hval0
  have hW':DataW.Whole enc Tryz.prog Tryz.f4.params.toList Rows.clientAgainSpec.vars false W args.toList ds gs before:=hW
  obtain ⟨p,q,hA0,hV,rfl,hfz,hnd⟩:=hW
  have hA:DataW.TrodAll enc Tryz.prog W 0 (fun _=>true) true Tryz.f4.params.toList args.toList ds p:=hA0
  rw [Tryz.params4] at hA hval
  obtain ⟨v0,v1,d0,d1,p0,p1,rfl,rfl,rfl,h0,h1⟩:=trodAll_two hA
  obtain ⟨rfl,rfl⟩:=trodVars_none hV
  obtain ⟨n,rfl,rfl,rfl,_⟩:=open_int Tryz.underlying3 (hval 1 3 v1 rfl rfl) h1
  obtain ⟨f0,hf0⟩:=h0
  rw [slice_one Tryz.underlying60 (hval 0 60 v0 rfl rfl)] at hf0
  obtain ⟨l,hl⟩:=entries_at (fun _=>rfl) hf0
  refine (ClientAgain_fn v0 l n (gOf W) W [Asn.kn (Stays W)] (sat_start (L:=[KE v0 l]) ⟨PH.emp,PH.emp,Split.emp_left _,hl,trivial⟩)).mono ?_
  rintro e W' ⟨v,M,rfl,⟨rfl,rfl⟩,hs⟩
  exact ⟨_,rfl,post_stays hW' rfl laidOut (by rw [Tryz.params4]; intro t ht; simp at ht; rcases ht with rfl | rfl <;> exact ⟨by kernel_rfl,of_decide_eq_true (by kernel_rfl)⟩) (by kernel_rfl) Tryz.underlying4 rfl rfl rfl hs⟩
theorem again_closed:joinedFacts Tryz.checked.prog 4 Tryz.f4 Rows.clientAgainSpec Rows.clientAgainRow=true:=by
  show joinedFacts Tryz.prog 4 Tryz.f4 Rows.clientAgainSpec Rows.clientAgainRow=true
  unfold joinedFacts
  rw [laidOut,mapsLaid,in4,unf4,rec4,named4,mayIn,liftsAre,makeIs,heard,plainK]
  kernel_rfl
theorem clientAgain_holds:Rows.ClientAgainSaid :=
  OpenClaim.holds_of_wide 4 Tryz.f4 rfl rfl rfl rfl rfl rfl rfl ⟨rfl,rfl,rfl,rfl,rfl⟩ rfl rfl rfl rfl rfl (by kernel_rfl) Tryz.func4 again_closed
    (of_decide_eq_true (by kernel_rfl)) (by unfold Func.isWrapper; first | (rw [if_pos (by decide +kernel)]; kernel_rfl) | (rw [if_neg (by decide +kernel)]; exact ⟨rfl,rfl⟩))
    (fun os started H enc _=>again_lifted os started H enc)
#print axioms clientAgain_holds
end Go.Proofs.YtdipecpdjeehoaaGreat
