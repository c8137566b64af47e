/- The sentinels that tessera/tesseralaw05.HalfCount's row lists, out of what it lists. -/
import Derived.Test.YtnnondbimdmcaaaDoorE
import Derived.Test.YtnnondbimdmcaaaDoorRows
import Derived.WalkKit
import Derived.ProofKit
import Derived.OpenShut
import Derived.ShutString
import Derived.ChangeOld
import Derived.Below
import Derived.SizedLaws
import Derived.LaidLaws
import Derived.LaidMore
import Derived.LaidHandle
import Derived.LaidOnce
import Derived.Stop.LaidErr
import Derived.SevenTiedAt
import Derived.JoinedOf
import Derived.RowKit
import Derived.RowKitTokens
import Derived.ChangeVars
import Derived.ChangeSame
import Derived.Lib.SmallJoins
namespace Go.Proofs.YtnnondbimdmcaaaDoor.halfCount
open Go.ChangeShapes Go.WideShapes Go.ChangeAt Go.RowKit
open Go.ChangeMaps (open_string shut_string)
set_option linter.unusedVariables false
set_option linter.unusedSimpArgs false
theorem gErrParams : Tryd.prog.globalNamed "tessera/api.ErrParams" = some 0 := by kernel_rfl
theorem tErrParams : (Tryd.prog.globals[0]?).map (·.type) = some 27 := by kernel_rfl
theorem gErrHalf : Tryd.prog.globalNamed "tessera/api.ErrHalf" = some 1 := by kernel_rfl
theorem tErrHalf : (Tryd.prog.globals[1]?).map (·.type) = some 27 := by kernel_rfl
theorem gErrNumber : Tryd.prog.globalNamed "tessera/api.ErrNumber" = some 2 := by kernel_rfl
theorem tErrNumber : (Tryd.prog.globals[2]?).map (·.type) = some 27 := by kernel_rfl
theorem cellsE : Tryd.prog.cellsOf 127 = 1 := by kernel_rfl
theorem cellsT : Tryd.prog.cellsOf 9 = 1 := by kernel_rfl
theorem star : "*" ++ "errors.errorString" = "*errors.errorString" := by decide
theorem rowE (u : TypeId) (h : Tryd.prog.typeName? 3 u = some "*errors.errorString") : u = 111 :=
  typeName_ptr_named (nm := "errors.errorString") (by rw [star]; kernel_rfl) (by kernel_rfl) (by decide) u (by rw [star]; exact h)
set_option maxRecDepth 100000 in
/-- The listed sentinels, each at a place of its own. -/
theorem sentinels {W : World} (h : laidMet Tryd.prog [("tessera/api.ErrParams", Rows.laid_tessera_api_ErrParams), ("tessera/api.ErrHalf", Rows.laid_tessera_api_ErrHalf), ("tessera/api.ErrNumber", Rows.laid_tessera_api_ErrNumber)] W) : ∃ E : Errs, @Sent E [1, 4, 12] W := by
  obtain ⟨ps, ⟨g0, t0, cs0, f0, p0, q0, hg0, ht0, hv0, hd0, ⟨g1, t1, cs1, f1, p1, q1, hg1, ht1, hv1, hd1, ⟨g2, t2, cs2, f2, p2, q2, hg2, ht2, hv2, hd2, hq, e2⟩, e1⟩, e0⟩, hnd, hrows⟩ := h
  obtain rfl := Option.some.inj (gErrParams.symm.trans hg0)
  obtain rfl := Option.some.inj (tErrParams.symm.trans ht0)
  obtain rfl := Option.some.inj (gErrHalf.symm.trans hg1)
  obtain rfl := Option.some.inj (tErrHalf.symm.trans ht1)
  obtain rfl := Option.some.inj (gErrNumber.symm.trans hg2)
  obtain rfl := Option.some.inj (tErrNumber.symm.trans ht2)
  have hq' : q2 = [] := hq
  subst hq'
  subst e2
  subst e1
  subst e0
  obtain ⟨l0⟩ := cs0
  have ok0 : ∀ u v, l0 = [.iface u v] → Value.okWide Tryd.prog W .any 0 u v := fun u v e => by
    subst e
    exact (hrows 0 0 (by simp [MemPlace.row])).2 u v (by simpa using World.var?_cell hg0 hv0 0)
  obtain ⟨a0, s0, rfl, hc0, hs0, hz0, rfl⟩ := errorString_of_trod Tryd.underlying27 rowE Tryd.underlying111 Tryd.underlying127 rfl rfl Tryd.underlying9 cellsE cellsT hd0 ok0
  have hcell0 : W.cell? ⟨0, 0, none⟩ = some (.iface 111 (.pointer (some a0))) := by simpa using World.var?_cell hg0 hv0 0
  have hblk0 := (hrows a0.block a0.off (by simp [MemPlace.row])).1
  obtain ⟨l1⟩ := cs1
  have ok1 : ∀ u v, l1 = [.iface u v] → Value.okWide Tryd.prog W .any 0 u v := fun u v e => by
    subst e
    exact (hrows 1 0 (by simp [MemPlace.row])).2 u v (by simpa using World.var?_cell hg1 hv1 0)
  obtain ⟨a1, s1, rfl, hc1, hs1, hz1, rfl⟩ := errorString_of_trod Tryd.underlying27 rowE Tryd.underlying111 Tryd.underlying127 rfl rfl Tryd.underlying9 cellsE cellsT hd1 ok1
  have hcell1 : W.cell? ⟨1, 0, none⟩ = some (.iface 111 (.pointer (some a1))) := by simpa using World.var?_cell hg1 hv1 0
  have hblk1 := (hrows a1.block a1.off (by simp [MemPlace.row])).1
  obtain ⟨l2⟩ := cs2
  have ok2 : ∀ u v, l2 = [.iface u v] → Value.okWide Tryd.prog W .any 0 u v := fun u v e => by
    subst e
    exact (hrows 2 0 (by simp [MemPlace.row])).2 u v (by simpa using World.var?_cell hg2 hv2 0)
  obtain ⟨a2, s2, rfl, hc2, hs2, hz2, rfl⟩ := errorString_of_trod Tryd.underlying27 rowE Tryd.underlying111 Tryd.underlying127 rfl rfl Tryd.underlying9 cellsE cellsT hd2 ok2
  have hcell2 : W.cell? ⟨2, 0, none⟩ = some (.iface 111 (.pointer (some a2))) := by simpa using World.var?_cell hg2 hv2 0
  have hblk2 := (hrows a2.block a2.off (by simp [MemPlace.row])).1
  have hne0_1 : a0 ≠ a1 := by
    intro e
    rw [e] at hnd
    simp [MemPlace.row] at hnd
  have hne0_2 : a0 ≠ a2 := by
    intro e
    rw [e] at hnd
    simp [MemPlace.row] at hnd
  have hne1_2 : a1 ≠ a2 := by
    intro e
    rw [e] at hnd
    simp [MemPlace.row] at hnd
  refine ⟨⟨fun c => if c = 1 then a0 else if c = 4 then a1 else if c = 12 then a2 else default⟩, ?_⟩
  refine @Sent.mk ⟨fun c => if c = 1 then a0 else if c = 4 then a1 else if c = 12 then a2 else default⟩ _ W ?_ ?_ ?_
  · intro c hc
    simp only [List.mem_cons, List.not_mem_nil, or_false] at hc
    rcases hc with rfl | rfl | rfl
    · exact hcell0
    · exact hcell1
    · exact hcell2
  · intro c hc
    simp only [List.mem_cons, List.not_mem_nil, or_false] at hc
    rcases hc with rfl | rfl | rfl
    · exact hblk0
    · exact hblk1
    · exact hblk2
  · intro c d hc hd e
    simp only [List.mem_cons, List.not_mem_nil, or_false] at hc hd
    rcases hc with rfl | rfl | rfl <;> rcases hd with rfl | rfl | rfl <;> first | rfl | exact absurd e hne0_1 | exact absurd e hne0_1.symm | exact absurd e hne0_2 | exact absurd e hne0_2.symm | exact absurd e hne1_2 | exact absurd e hne1_2.symm
end Go.Proofs.YtnnondbimdmcaaaDoor.halfCount
