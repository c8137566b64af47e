/- The parities' matrix, reckoned with a table of inverses: what it tells the program's own function tells. -/
import Derived.Test.YtnnondbimdmcaaaDoorF38
import Derived.Test.YtnnondbimdmcaaaDoorF19
import Derived.KernelRfl
namespace Go.Proofs.YtnnondbimdmcaaaDoor.Plain
open Go.RowKit Go.Proofs.YtnnondbimdmcaaaDoorW.PrintWords Go.Proofs.YtnnondbimdmcaaaDoorW.PrintLast Go.Proofs.YtnnondbimdmcaaaDoor.F
set_option linter.unusedVariables false

abbrev someErrs : Errs := ⟨fun _ => ⟨0, 0, none⟩⟩
attribute [local instance] someErrs
/-- The inverses of 0 to 31 in the field (0 stands for none). -/
def invTab : List Int := [0, 1, 142, 244, 71, 167, 122, 186, 173, 157, 221, 152, 61, 170, 93, 150, 216, 114, 192, 88, 224, 62, 76, 102, 144, 222, 85, 128, 160, 131, 75, 42]
def invT (x : Int) : Option (Int × Bool) := if 1 ≤ x then (if x < 32 then some (invTab.getD x.toNat 0, true) else none) else none
theorem inv_tab_all : ((List.range 32).all fun x => x == 0 || decide (gf_Inv.f 20 (x : Int) = some (invTab.getD x 0, true))) = true := by kernel_rfl
theorem inv_le (x : Int) (k : Nat) : LeO (invT x) (gf_Inv.f (k + 20) x) := by
  intro r h
  unfold invT at h
  by_cases h0 : 1 ≤ x
  · by_cases h1 : x < 32
    · rw [if_pos h0, if_pos h1] at h
      have ha := List.all_eq_true.1 inv_tab_all x.toNat (List.mem_range.2 (by omega))
      have hx : (x.toNat == 0) = false := by simp; omega
      rw [hx, Bool.false_or] at ha
      have hd := of_decide_eq_true ha
      rw [Int.toNat_of_nonneg (by omega)] at hd
      rw [← h]
      exact at_rounds (gf_Inv.mono x) (by omega) hd
    · rw [if_pos h0, if_neg h1] at h; cases h
  · rw [if_neg h0] at h; cases h

mutual
def par0 : Nat → Int → Int → Int → Int → Int → List Int → Option (Int × Int × List Int × Option Int)
  | 0, _, _, _, _, _, _ => none
  | k + 1, x0, x22, x23, x121000, x121001, x121002 => if x23 < x22 then (par1 k x0 x23 x22 x23 x0 0 x121000 x121001 x121002) else (some (x121000, x121001, x121002, none))
def par1 : Nat → Int → Int → Int → Int → Int → Int → Int → Int → List Int → Option (Int × Int × List Int × Option Int)
  | 0, _, _, _, _, _, _, _, _, _ => none
  | k + 1, x0, x8, x22, x23, x26, x27, x121000, x121001, x121002 => if x27 < x26 then ((invT ((Go.bits .xor .i64 (wrap64 (x0 + x8)) x27) % 256)).bind fun bt121 => (if x121002.length < 140737488355328 then (par1 k x0 x8 x22 x23 x26 (wrap64 (x27 + 1)) x121000 x121001 (x121002 ++ [bt121.1])) else (none))) else (par0 k x0 x22 (wrap64 (x23 + 1)) x121000 x121001 x121002)
end
theorem par_le : ∀ k, (∀ y0 y1 y2 y3 y4 y5, LeO (par0 k y0 y1 y2 y3 y4 y5) (base_Parity.l0 (k + 20) y0 y1 y2 y3 y4 y5)) ∧ (∀ y0 y1 y2 y3 y4 y5 y6 y7 y8, LeO (par1 k y0 y1 y2 y3 y4 y5 y6 y7 y8) (base_Parity.l1 (k + 20) y0 y1 y2 y3 y4 y5 y6 y7 y8))
  | 0 => ⟨fun _ _ _ _ _ _ r h => by simp [par0] at h, fun _ _ _ _ _ _ _ _ _ r h => by simp [par1] at h⟩
  | k + 1 => by
    obtain ⟨ih0, ih1⟩ := par_le k
    have e : k + 1 + 20 = (k + 20) + 1 := by omega
    rw [e]
    refine ⟨?_, ?_⟩
    · intro y0 y1 y2 y3 y4 y5
      unfold par0 base_Parity.l0
      exact LeO.ite (ih1 _ _ _ _ _ _ _ _ _) (LeO.refl _)
    · intro y0 y1 y2 y3 y4 y5 y6 y7 y8
      unfold par1 base_Parity.l1
      refine LeO.ite (LeO.bind (inv_le _ _) (fun x => LeO.ite ?_ (LeO.refl _))) ?_
      · exact ih1 _ _ _ _ _ _ _ _ _
      · exact ih0 _ _ _ _ _ _
def parT (k : Nat) (a0 : Int) (a1 : Int) : Option (Int × Int × List Int × Option Int) := (base_Check.f a0 a1).bind fun t118 => (if t118.isNone = true then (par0 k a0 a1 0 a1 a0 ([] : List Int)) else (some (0, 0, ([] : List Int), some (t118.getD 0))))
theorem parT_le (k : Nat) (a b : Int) : LeO (parT k a b) (base_Parity.f (k + 20) a b) := by
  unfold parT base_Parity.f
  exact LeO.bind (LeO.refl _) (fun x => LeO.ite ((par_le k).1 _ _ _ _ _ _) (LeO.refl _))
def rowsT (k : Nat) (a0 : Int) (a1 : Int) : Option (Int × Int × List Int × Option Int) := (parT k a0 a1).bind fun bt277 => (if bt277.2.2.2.isNone = true then (half_Rows.l0 (k + 20) a0 a1 ([] : List (List Int)) (wrap64 (2 * (wrap64 (a0 + a1)))) 0 bt277.1 bt277.2.1 bt277.2.2.1) else (some (0, 0, ([] : List Int), some (bt277.2.2.2.getD 0))))
theorem rowsT_le (k : Nat) (a b : Int) : LeO (rowsT k a b) (half_Rows.f (k + 20) a b) := by
  unfold rowsT half_Rows.f
  exact LeO.bind (parT_le k a b) (fun x => LeO.refl _)
end Go.Proofs.YtnnondbimdmcaaaDoor.Plain
