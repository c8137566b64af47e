/- The parities' matrix written out, at every legal k and r; the rows of halves written out, at k below 12. -/
import Derived.Test.YtndnedjclbigiaaDoorO4
import Derived.Test.YtndnedjclbigiaaDoorO5
import Derived.Test.YtndnedjclbigiaaDoorO3
namespace Go.Proofs.YtndnedjclbigiaaDoor.Plain
open Go.RowKit Go.Proofs.YtndnedjclbigiaaDoorW.PrintWords Go.Proofs.YtndnedjclbigiaaDoorW.PrintLast Go.Proofs.YtndnedjclbigiaaDoor.F
set_option linter.unusedVariables false
attribute [local instance] someErrs

def pof2 (a b : Nat) : List Int := (List.range b).flatMap fun i => (List.range a).map fun j => invTab.getD ((a + i) ^^^ j) 0
/-- A half's row, written out. -/
def rsp (a b h : Nat) : List Int := (List.range (2 * a)).map fun t =>
  if h / 2 < a then (if t = h then 1 else 0) else
  if t % 2 = h % 2 then invTab.getD ((h / 2) ^^^ (t / 2)) 0 else
  if h % 2 = 0 then 0 else if a < h / 2 ∧ (h / 2 - a - 1) * ((a + b - 2) / (b - 1)) ≤ t / 2 ∧ t / 2 < (h / 2 - a) * ((a + b - 2) / (b - 1)) then 1 else 0
def parOk2 (a : Nat) : Bool := (List.range 17).all fun b => !(legalB a b) || decide (parT 300 (a : Int) (b : Int) = some ((b : Int), (a : Int), pof2 a b, none))
theorem parOk2_0 : parOk2 0 = true := by kernel_rfl
theorem parOk2_1 : parOk2 1 = true := by kernel_rfl
theorem parOk2_2 : parOk2 2 = true := by kernel_rfl
theorem parOk2_3 : parOk2 3 = true := by kernel_rfl
theorem parOk2_4 : parOk2 4 = true := by kernel_rfl
theorem parOk2_5 : parOk2 5 = true := by kernel_rfl
theorem parOk2_6 : parOk2 6 = true := by kernel_rfl
theorem parOk2_7 : parOk2 7 = true := by kernel_rfl
theorem parOk2_8 : parOk2 8 = true := by kernel_rfl
theorem parOk2_9 : parOk2 9 = true := by kernel_rfl
theorem parOk2_10 : parOk2 10 = true := by kernel_rfl
theorem parOk2_11 : parOk2 11 = true := by kernel_rfl
theorem parOk2_12 : parOk2 12 = true := by kernel_rfl
theorem parOk2_13 : parOk2 13 = true := by kernel_rfl
theorem parOk2_14 : parOk2 14 = true := by kernel_rfl
theorem parOk2_15 : parOk2 15 = true := by kernel_rfl
theorem parOk2_16 : parOk2 16 = true := by kernel_rfl
theorem par2_all (a : Nat) (h : a < 17) : parOk2 a = true := by
  rcases a with _ | _ | _ | _ | _ | _ | _ | _ | _ | _ | _ | _ | _ | _ | _ | _ | _ | a
  · exact parOk2_0
  · exact parOk2_1
  · exact parOk2_2
  · exact parOk2_3
  · exact parOk2_4
  · exact parOk2_5
  · exact parOk2_6
  · exact parOk2_7
  · exact parOk2_8
  · exact parOk2_9
  · exact parOk2_10
  · exact parOk2_11
  · exact parOk2_12
  · exact parOk2_13
  · exact parOk2_14
  · exact parOk2_15
  · exact parOk2_16
  · omega

def spOk2 (a : Nat) : Bool := (List.range 17).all fun b => !(legalB a b) || ((List.range (2 * (a + b))).all fun h => decide (half_row.f 80 a b ((h / 2 : Nat) : Int) ((h % 2 : Nat) : Int) b a (pof2 a b) = some (rsp a b h)))
theorem spOk2_0 : spOk2 0 = true := by kernel_rfl
theorem spOk2_1 : spOk2 1 = true := by kernel_rfl
theorem spOk2_2 : spOk2 2 = true := by kernel_rfl
theorem spOk2_3 : spOk2 3 = true := by kernel_rfl
theorem spOk2_4 : spOk2 4 = true := by kernel_rfl
theorem spOk2_5 : spOk2 5 = true := by kernel_rfl
theorem spOk2_6 : spOk2 6 = true := by kernel_rfl
theorem spOk2_7 : spOk2 7 = true := by kernel_rfl
theorem spOk2_8 : spOk2 8 = true := by kernel_rfl
theorem spOk2_9 : spOk2 9 = true := by kernel_rfl
theorem spOk2_10 : spOk2 10 = true := by kernel_rfl
end Go.Proofs.YtndnedjclbigiaaDoor.Plain
