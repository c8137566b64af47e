/- The parities of both texts are alike at every legal k and r. -/
import Derived.Test.YtnnondbimdmcaaaDoorR5
import Derived.Test.YtnnondbimdmcaaaDoorR7
import Derived.Test.YtnnondbimdmcaaaDoorR3
namespace Go.Proofs.YtnnondbimdmcaaaDoor.Plain
open Go.RowKit Go.Proofs.YtnnondbimdmcaaaDoorW.PrintWords Go.Proofs.YtnnondbimdmcaaaDoorW.PrintLast Go.Proofs.YtnnondbimdmcaaaDoor.F
set_option linter.unusedVariables false
attribute [local instance] someErrs

def pof (a b : Nat) : List Int := (List.range b).flatMap fun i => (List.range a).map fun j => invTab.getD ((a + i) ^^^ j) 0
/-- The row of a half, by the program's text. -/
def rwo (a b h : Nat) : List Int := (half_row.f 80 a b ((h / 2 : Nat) : Int) ((h % 2 : Nat) : Int) b a (pof a b)).getD []
/-- The reference's row, the parities known. -/
def rowQ (P : List Int) (k : Nat) (a0 : Int) (a1 : Int) (a2 : Int) : Option (List Int) := if 0 ≤ (wrap64 (2 * a0)) then (if (wrap64 (2 * a0) : Int).toNat ≤ 281474976710656 then ((some (List.replicate (wrap64 (2 * a0) : Int).toNat 0 : List Int)).bind fun y349 => (if (wrap64 (Int.tdiv a2 2)) < a0 then (if 0 ≤ a2 then (if a2 < (y349.length : Int) then (some (y349.set (a2 : Int).toNat 1)) else (none)) else (none)) else (tesseraref05_Row.l0 k a0 a1 y349 (wrap64 (Int.tdiv a2 2)) (Int.tmod a2 2) 0 a1 a0 P))) else (none)) else (none)
theorem rowQ_mono (P : List Int) (a0 a1 a2 : Int) : ∀ k, LeO (rowQ P k a0 a1 a2) (rowQ P (k + 1) a0 a1 a2) := by
  intro k
  unfold rowQ
  exact LeO.ite (LeO.ite (LeO.bind (LeO.refl _) (fun _ => LeO.ite (LeO.refl _) (tesseraref05_Row.mono_l k _ _ _ _ _ _ _ _ _))) (LeO.refl _)) (LeO.refl _)
theorem row_of_par {k : Nat} {a0 a1 a2 : Int} {P : List Int} (h : tesseraref04_Parity.f k a0 a1 = some (a1, a0, P)) : tesseraref05_Row.f k a0 a1 a2 = rowQ P k a0 a1 a2 := by
  unfold tesseraref05_Row.f rowQ
  rw [h]; rfl

def parOk (a : Nat) : Bool := (List.range 17).all fun b => !(legalB a b) || (decide (parT 300 (a : Int) (b : Int) = some ((b : Int), (a : Int), pof a b, none)) && decide (rpT 300 (a : Int) (b : Int) = some ((b : Int), (a : Int), pof a b)))
def rowOk (a : Nat) : Bool := (List.range 17).all fun b => !(legalB a b) || ((List.range (2 * (a + b))).all fun h => decide (half_row.f 80 a b ((h / 2 : Nat) : Int) ((h % 2 : Nat) : Int) b a (pof a b) = some (rwo a b h)) && decide (rowQ (pof a b) 80 (a : Int) (b : Int) (h : Int) = some (rwo a b h)) && decide ((rwo a b h).length = 2 * a))
theorem parOk_0 : parOk 0 = true := by kernel_rfl
theorem parOk_1 : parOk 1 = true := by kernel_rfl
theorem parOk_2 : parOk 2 = true := by kernel_rfl
theorem parOk_3 : parOk 3 = true := by kernel_rfl
theorem parOk_4 : parOk 4 = true := by kernel_rfl
theorem parOk_5 : parOk 5 = true := by kernel_rfl
theorem parOk_6 : parOk 6 = true := by kernel_rfl
theorem parOk_7 : parOk 7 = true := by kernel_rfl
theorem parOk_8 : parOk 8 = true := by kernel_rfl
theorem parOk_9 : parOk 9 = true := by kernel_rfl
theorem parOk_10 : parOk 10 = true := by kernel_rfl
theorem parOk_11 : parOk 11 = true := by kernel_rfl
theorem parOk_12 : parOk 12 = true := by kernel_rfl
theorem parOk_13 : parOk 13 = true := by kernel_rfl
theorem parOk_14 : parOk 14 = true := by kernel_rfl
theorem parOk_15 : parOk 15 = true := by kernel_rfl
theorem parOk_16 : parOk 16 = true := by kernel_rfl
theorem par_all (a : Nat) (h : a < 17) : parOk a = true := by
  rcases a with _ | _ | _ | _ | _ | _ | _ | _ | _ | _ | _ | _ | _ | _ | _ | _ | _ | a
  · exact parOk_0
  · exact parOk_1
  · exact parOk_2
  · exact parOk_3
  · exact parOk_4
  · exact parOk_5
  · exact parOk_6
  · exact parOk_7
  · exact parOk_8
  · exact parOk_9
  · exact parOk_10
  · exact parOk_11
  · exact parOk_12
  · exact parOk_13
  · exact parOk_14
  · exact parOk_15
  · exact parOk_16
  · omega
end Go.Proofs.YtnnondbimdmcaaaDoor.Plain
