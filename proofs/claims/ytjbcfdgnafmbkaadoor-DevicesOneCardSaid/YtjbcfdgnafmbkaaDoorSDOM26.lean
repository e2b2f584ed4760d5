/- Lemmas, walks and printed functions for the claim. -/
import Derived.Test.YtjbcfdgnafmbkaaDoorSDOM12
import Derived.LaidMore
import Derived.Lay
import Derived.OpenShut
import Derived.ProofKit
import Derived.Stop.Joined
import Derived.Test.YtjbcfdgnafmbkaaDoorRows
section
set_option linter.unusedVariables false
namespace Go.Proofs.YtjbcfdgnafmbkaaDoor.Sha
open Go.ChangeShapes Go.WideShapes Go.ChangeAt Go.RowKit
def laidL : List (String × DataW Unit) := [("signatory/digest.start", Rows.laid_signatory_digest_start), ("signatory/digest.numbers", Rows.laid_signatory_digest_numbers)]
theorem one_laid {W : World} {name : String} {g T n fuel : Nat} {cs : Array Value} {p : List MemPlace} {d : DataW Unit} (zs : List Nat) (hg : Tryd.prog.globalNamed name = some g) (hU : Tryd.prog.underlying T = some (.array n 132)) (hz : zs.length = n)
    (hv : W.var? Tryd.prog name = some cs) (hd : DataW.trod (fun _ => ()) Tryd.prog W 0 (fun _ => true) false fuel T cs.toList = some (d, p)) (hds : d = .agg (zs.map fun (z : Nat) => .lit (.int .u32 (z : Int)))) (r : Nat) (hr : r < n) :
    W.cell? ⟨g, r, none⟩ = some (.int .u32 (zs.getD r 0 : Nat)) := by
  obtain ⟨xs, m, _, ex, _, hl, hel⟩ := DataW.trod_array hU hd
  have c5 : Tryd.prog.cellsOf 132 = 1 := by kernel_rfl
  have hE := hel r hr
  rw [c5, Nat.mul_one, List.getElem?_eq_getElem (by omega)] at hE
  obtain ⟨z, e1, e2, _⟩ := DataW.trod_int (show Tryd.prog.underlying 132 = some (.int .u32) by kernel_rfl) hE
  rw [hds] at ex
  have e3 : (xs.map (·.1)) = zs.map fun (n : Nat) => .lit (.int .u32 (n : Int)) := (DataW.agg.inj (Prod.mk.inj ex).1).symm
  have e4 : (xs.map (·.1))[r]? = (zs.map fun (n : Nat) => (DataW.lit (.int .u32 (n : Int)) : DataW Unit))[r]? := by rw [e3]
  rw [List.getElem?_map, List.getElem?_map, List.getElem?_eq_getElem (by omega : r < xs.length), List.getElem?_eq_getElem (by omega : r < zs.length), e2] at e4
  have hz : z = (zs.getD r 0 : Nat) := by
    simp only [Option.map_some, Option.some.injEq, DataW.lit.injEq, Lit.int.injEq, true_and] at e4
    rw [e4, List.getD, List.getElem?_eq_getElem (by omega : r < zs.length)]; rfl
  rw [World.var?_cell hg hv r, ← hz]
  have : cs.toList[r]? = some (.int .u32 z) := by
    have h0 : ((cs.toList.drop r).take 1)[0]? = some (.int .u32 z) := by rw [e1]; rfl
    simpa using h0
  simpa using this
theorem laid_of {W : World} (h : laidMetH Tryd.prog laidL W) : Laid W := by
  rw [MakeChecks.laidMetH_plain _ _ _ (by kernel_rfl)] at h
  obtain ⟨ps, h, _, _⟩ := h
  obtain ⟨g, t, cs, fuel, p, q, hg, ht, hv, hd, h2, _⟩ := h
  obtain ⟨g', t', cs', fuel', p', q', hg', ht', hv', hd', _, _⟩ := h2
  obtain rfl := Option.some.inj ((show Tryd.prog.globalNamed "signatory/digest.start" = some 0 by kernel_rfl).symm.trans hg)
  obtain rfl := Option.some.inj ((show Tryd.prog.globalNamed "signatory/digest.numbers" = some 1 by kernel_rfl).symm.trans hg')
  obtain rfl := Option.some.inj ((show (Tryd.prog.globals[0]?).map (·.type) = some 133 by kernel_rfl).symm.trans ht)
  have ht2 := ht'
  refine ⟨fun i hi => one_laid (stV H0) hg (n := 8) (by kernel_rfl) rfl hv hd rfl i hi, fun i hi => ?_⟩
  obtain ⟨T, hT, hU⟩ : ∃ T, (Tryd.prog.globals[1]?).map (·.type) = some T ∧ Tryd.prog.underlying T = some (.array 64 132) := ⟨172, by kernel_rfl, by kernel_rfl⟩
  obtain rfl := Option.some.inj (hT.symm.trans ht')
  exact one_laid K hg' (n := 64) hU rfl hv' hd' rfl i hi
end Go.Proofs.YtjbcfdgnafmbkaaDoor.Sha
end
