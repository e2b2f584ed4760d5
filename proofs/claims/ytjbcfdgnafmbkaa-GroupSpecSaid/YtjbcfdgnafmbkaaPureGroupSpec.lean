/- GroupSpec, over numbers: Valid, Mul and Pow of package group are those of the reference. -/
import Derived.Test.YtjbcfdgnafmbkaaPGroupx3
import Derived.Test.YtjbcfdgnafmbkaaGroupFns
namespace Go.Proofs.Ytjbcfdgnafmbkaa.Pure
open Go.RowKit Go.Proofs.Ytjbcfdgnafmbkaa.PGroup Go.Proofs.YtjbcfdgnafmbkaaW.PrintWords Go.Proofs.YtjbcfdgnafmbkaaW.PrintLast
theorem sane_32 : signatorylaw10_sane.f 32 = some true := by
  have h := fun k => signatorylaw10_sane.mono k true
  have : ∀ j, signatorylaw10_sane.f (2 + j) = some true := fun j => by
    induction j with
    | zero => exact sane_f
    | succ j ih => exact signatorylaw10_sane.mono _ _ ih
  exact this 30
theorem GroupSpec : signatorylaw10_GroupSpec.Pure := by
  intro a b n _ _ _
  refine ⟨32, ?_⟩
  unfold signatorylaw10_GroupSpec.f
  rw [sane_32, Option.bind_some, if_pos rfl, mul_f, refmul_f, pow_f, refpow_f, valid_f, refvalid_f]
  simp
end Go.Proofs.Ytjbcfdgnafmbkaa.Pure
