/- This file proves Rows.ClientStillSaid: a frame that a client refuses changes nothing. Conditions: none beyond those of the statement itself. -/
import Derived.Test.YtdipecpdjeehoaaGreatRows
import Derived.Test.YtdipecpdjeehoaaGreatQk12
import Derived.Test.YtdipecpdjeehoaaGreatQk1
import Derived.Test.YtdipecpdjeehoaaGreatQk2
import Derived.Test.YtdipecpdjeehoaaGreatQk3
import Derived.Test.YtdipecpdjeehoaaGreatQk4
import Derived.Test.YtdipecpdjeehoaaGreatQk5
import Derived.Test.YtdipecpdjeehoaaGreatQk6
open Go.Proofs
namespace Go.Proofs.YtdipecpdjeehoaaGreat
open Go.ChangeShapes Go.WideShapes Go.ChangeAt Go.RowKit Go.Lk
theorem own:ownKnob Tryz.prog.godebug=none:=by kernel_rfl
set_option maxRecDepth 100000 in
theorem still_lifted (os:Os) (started:os.Started) (H:Type) (enc:TypeId × Value→H) :
    ReturnsInHanded {} Tryz.checked os 5 .any (Rows.clientStillSpec.pre6 enc Tryz.prog Tryz.f5 Rows.clientStillRow.domain false) (Rows.clientStillSpec.post enc Tryz.prog Tryz.f5 false true false false):=by
  refine returnsInHanded_of_change (C:=Tryz.checked) own started (by kernel_rfl) Tryz.func5
    (ChangeSpec.witness6 (enc:=enc) (C:=Tryz.checked) false ⟨#[],#[.slice none 0 0,.slice none 0 0],[]⟩ 8 (by kernel_rfl) (by kernel_rfl) (by kernel_rfl) (by kernel_rfl)) ?_
  intro W base args ds gs before hval0 hW _ _
  have hval:∀ (j:Nat) t v,Tryz.f5.params[j]? = some t→args[j]? = some v→Value.okWide Tryz.prog W .any base t v:=hval0
  have hW':DataW.Whole enc Tryz.prog Tryz.f5.params.toList Rows.clientStillSpec.vars false W args.toList ds gs before:=hW
  obtain ⟨p,q,hA0,hV,rfl,hfz,hnd⟩:=hW
  have hA:DataW.TrodAll enc Tryz.prog W 0 (fun _=>true) true Tryz.f5.params.toList args.toList ds p:=hA0
  rw [Tryz.params5] at hA hval
  obtain ⟨v0,v1,d0,d1,p0,p1,rfl,rfl,rfl,h0,h1⟩:=trodAll_two hA
  obtain ⟨rfl,rfl⟩:=trodVars_none hV
  obtain ⟨f0,hf0⟩:=h0
  obtain ⟨f1,hf1⟩:=h1
  rw [slice_one Tryz.underlying60 (hval 0 60 v0 rfl rfl)] at hf0
  rw [slice_one Tryz.underlying22 (hval 1 22 v1 rfl rfl)] at hf1
  obtain ⟨l,hl⟩:=entries_at (fun _=>rfl) hf0
  obtain ⟨bs,hb⟩:=bytes_at (fun _=>rfl) hf1
  refine (ClientStill_fn v0 l v1 bs (gOf W) W [Asn.kn (Stays W)] (sat_start (L:=[KE v0 l,KB v1 bs]) ⟨PH.emp,PH.emp,Split.emp_left _,hl,PH.emp,PH.emp,Split.emp_left _,hb,trivial⟩)).mono ?_
  rintro e W' ⟨v,M,rfl,⟨rfl,rfl⟩,hs⟩
  exact ⟨_,rfl,post_stays hW' rfl laidOut (by rw [Tryz.params5]; intro t ht; simp at ht; rcases ht with rfl | rfl <;> exact ⟨by kernel_rfl,of_decide_eq_true (by kernel_rfl)⟩) (by kernel_rfl) Tryz.underlying4 rfl rfl rfl hs⟩
theorem still_closed:joinedFacts Tryz.checked.prog 5 Tryz.f5 Rows.clientStillSpec Rows.clientStillRow=true:=by
  show joinedFacts Tryz.prog 5 Tryz.f5 Rows.clientStillSpec Rows.clientStillRow=true
  unfold joinedFacts
  rw [laidOut,mapsLaid,in5,unf5,rec5,named5,mayIn,liftsAre,makeIs,heard,plainK]
  kernel_rfl
theorem clientStill_holds:Rows.ClientStillSaid :=
  OpenClaim.holds_of_wide 5 Tryz.f5 rfl rfl rfl rfl rfl rfl rfl ⟨rfl,rfl,rfl,rfl,rfl⟩ rfl rfl rfl rfl rfl (by kernel_rfl) Tryz.func5 still_closed
    (of_decide_eq_true (by kernel_rfl)) (by unfold Func.isWrapper; first | (rw [if_pos (by decide +kernel)]; kernel_rfl) | (rw [if_neg (by decide +kernel)]; exact ⟨rfl,rfl⟩))
    (fun os started H enc _=>still_lifted os started H enc)
#print axioms clientStill_holds
end Go.Proofs.YtdipecpdjeehoaaGreat
