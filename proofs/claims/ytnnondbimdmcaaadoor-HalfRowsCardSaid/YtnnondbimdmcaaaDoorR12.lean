/- What some functions come to, each a function of its own text; joined out of: M7, PureHalfRows, SenHalfRows. No conditions but those in each theorem. -/
import Derived.Test.YtnnondbimdmcaaaDoorR2
import Derived.Test.YtnnondbimdmcaaaDoorR10
import Derived.Test.YtnnondbimdmcaaaDoorR11
import Derived.Test.YtnnondbimdmcaaaDoorR8
import Derived.Test.YtnnondbimdmcaaaDoorR1
import Derived.Test.YtnnondbimdmcaaaDoorRows
import Derived.WalkKit
import Derived.ProofKit
import Derived.OpenShut
import Derived.ShutString
import Derived.ChangeOld
import Derived.Below
import Derived.SizedLaws
import Derived.LaidLaws
import Derived.LaidMore
import Derived.LaidHandle
import Derived.LaidOnce
import Derived.Stop.LaidErr
import Derived.SevenTiedAt
import Derived.JoinedOf
import Derived.RowKit
import Derived.RowKitTokens
import Derived.ChangeVars
import Derived.ChangeSame
import Derived.Lib.SmallJoins
namespace Go.Proofs.YtnnondbimdmcaaaDoor.Plain
open Go.RowKit Go.Proofs.YtnnondbimdmcaaaDoorW.PrintWords Go.Proofs.YtnnondbimdmcaaaDoorW.PrintLast Go.Proofs.YtnnondbimdmcaaaDoor.F
set_option linter.unusedVariables false
attribute [local instance] someErrs

theorem row_all (a : Nat) (h : a < 17) : rowOk a = true := by
  rcases a with _ | _ | _ | _ | _ | _ | _ | _ | _ | _ | _ | _ | _ | _ | _ | _ | _ | a
  · exact rowOk_0
  · exact rowOk_1
  · exact rowOk_2
  · exact rowOk_3
  · exact rowOk_4
  · exact rowOk_5
  · exact rowOk_6
  · exact rowOk_7
  · exact rowOk_8
  · exact rowOk_9
  · exact rowOk_10
  · exact rowOk_11
  · exact rowOk_12
  · exact rowOk_13
  · exact rowOk_14
  · exact rowOk_15
  · exact rowOk_16
  · omega

structure Rows_ (a b : Nat) (P : List Int) (f : Nat → List Int) : Prop where
  la : 1 ≤ a
  lb : 2 ≤ b
  lab : a + b ≤ 16
  par : ∀ K, 320 ≤ K → base_Parity.f K (a : Int) (b : Int) = some ((b : Int), (a : Int), P, none)
  rpar : ∀ K, 700 ≤ K → tesseraref04_Parity.f K (a : Int) (b : Int) = some ((b : Int), (a : Int), P)
  row : ∀ h, h < 2 * (a + b) → ∀ K, 80 ≤ K → half_row.f K (a : Int) (b : Int) ((h / 2 : Nat) : Int) ((h % 2 : Nat) : Int) (b : Int) (a : Int) (P) = some (f h)
  ref : ∀ h, h < 2 * (a + b) → ∀ K, 700 ≤ K → tesseraref05_Row.f K (a : Int) (b : Int) (h : Int) = some (f h)
  len : ∀ h, h < 2 * (a + b) → (f h).length = 2 * a

theorem rows_of (a b : Nat) (h : legalB a b = true) : Rows_ a b (pof a b) (rwo a b) := by
  have hl : (1 ≤ a ∧ 2 ≤ b) ∧ a + b ≤ 16 := by simpa [legalB] using h
  obtain ⟨⟨la, lb⟩, lab⟩ := hl
  have h1 := List.all_eq_true.1 (par_all a (by omega)) b (List.mem_range.2 (by omega))
  rw [h, Bool.not_true, Bool.false_or, Bool.and_eq_true] at h1
  have h2 := List.all_eq_true.1 (row_all a (by omega)) b (List.mem_range.2 (by omega))
  rw [h, Bool.not_true, Bool.false_or] at h2
  have hp : ∀ K, 320 ≤ K → base_Parity.f K (a : Int) (b : Int) = some ((b : Int), (a : Int), pof a b, none) := fun K hK => at_rounds (g := fun K => base_Parity.f K (a : Int) (b : Int)) (base_Parity.mono _ _) hK (parT_le 300 _ _ _ (of_decide_eq_true h1.1))
  have hq : ∀ K, 700 ≤ K → tesseraref04_Parity.f K (a : Int) (b : Int) = some ((b : Int), (a : Int), pof a b) := fun K hK => at_rounds (g := fun K => tesseraref04_Parity.f K (a : Int) (b : Int)) (tesseraref04_Parity.mono _ _) hK (rpT_le 300 _ _ _ (of_decide_eq_true h1.2))
  have h3 : ∀ g, g < 2 * (a + b) → _ := fun g hg => List.all_eq_true.1 h2 g (List.mem_range.2 hg)
  refine ⟨la, lb, lab, hp, hq, fun g hg K hK => ?_, fun g hg K hK => ?_, fun g hg => ?_⟩
  · have := h3 g hg
    rw [Bool.and_eq_true, Bool.and_eq_true] at this
    exact at_rounds (g := fun K => half_row.f K (a : Int) (b : Int) ((g / 2 : Nat) : Int) ((g % 2 : Nat) : Int) (b : Int) (a : Int) (pof a b)) (half_row.mono _ _ _ _ _ _ _) hK (of_decide_eq_true this.1.1)
  · have := h3 g hg
    rw [Bool.and_eq_true, Bool.and_eq_true] at this
    rw [row_of_par (hq K hK)]
    exact at_rounds (g := fun K => rowQ (pof a b) K (a : Int) (b : Int) (g : Int)) (rowQ_mono _ _ _ _) (by omega) (of_decide_eq_true this.1.2)
  · have := h3 g hg
    rw [Bool.and_eq_true, Bool.and_eq_true] at this
    exact of_decide_eq_true this.2

/-- The rows from i on, d of them, one behind the other. -/
def cat (f : Nat → List Int) : Nat → Nat → List Int
  | _, 0 => []
  | i, d + 1 => f i ++ cat f (i + 1) d
def rowl (f : Nat → List Int) (i : Nat) : List (List Int) := (List.range i).map f
theorem rowl_succ (f : Nat → List Int) (i : Nat) : rowl f (i + 1) = rowl f i ++ [f i] := by simp [rowl, List.range_succ]
theorem rowl_length (f : Nat → List Int) (i : Nat) : (rowl f i).length = i := by simp [rowl]
theorem half_at_of (h : Nat) (hh : h < 64) : half_at.f (h : Int) = some (((h / 2 : Nat) : Int), ((h % 2 : Nat) : Int)) := by
  unfold half_at.f
  have e1 : Int.tdiv (h : Int) 2 = ((h / 2 : Nat) : Int) := by rw [Int.tdiv_eq_ediv_of_nonneg (by omega)]; omega
  have e2 : Int.tmod (h : Int) 2 = ((h % 2 : Nat) : Int) := by rw [Int.tmod_eq_emod_of_nonneg (by omega)]; omega
  rw [e1, e2]
  have : wrap64 ((h / 2 : Nat) : Int) = ((h / 2 : Nat) : Int) := by unfold wrap64; omega
  rw [this]

theorem half_rows_l0 {a b : Nat} {P : List Int} {f : Nat → List Int} (R : Rows_ a b P f) (K : Nat) (hK : 80 ≤ K) : ∀ (d i : Nat), i + d = 2 * (a + b) →
    half_Rows.l0 (K + d + 1) (a : Int) (b : Int) (rowl f i) ((2 * (a + b) : Nat) : Int) (i : Int) (b : Int) (a : Int) (P) =
      (mat_Of.f K (wrap64 (2 * (a : Int))) (rowl f (2 * (a + b)))).bind fun bt293 => (some (bt293.1, bt293.2.1, bt293.2.2.1, bt293.2.2.2)) := by
  intro d
  induction d with
  | zero =>
    intro i hi
    obtain rfl : i = 2 * (a + b) := by omega
    rw [Nat.add_zero, half_Rows.l0, if_neg (by omega)]
  | succ d ih =>
    intro i hi
    have lab := R.lab
    have e : K + (d + 1) + 1 = (K + d + 1) + 1 := by omega
    rw [e, half_Rows.l0, if_pos (by omega), half_at_of i (by omega), Option.bind_some, R.row i (by omega) (K + d + 1) (by omega), Option.bind_some, if_pos (by rw [rowl_length]; omega)]
    have hw : wrap64 ((i : Int) + 1) = ((i + 1 : Nat) : Int) := by unfold wrap64; omega
    rw [hw, ← rowl_succ]
    exact ih (i + 1) (by omega)

theorem rd_rowl {f : Nat → List Int} {n : Nat} (i : Nat) (h : i < n) : rd_L3 (rowl f n) (i : Int) = f i := by
  unfold rd_L3 rowl
  simp [List.getD_eq_getElem?_getD, h]

theorem mat_of_l0 {a b : Nat} {P : List Int} {f : Nat → List Int} (R : Rows_ a b P f) : ∀ (d i : Nat) (acc : List Int) (K : Nat), i + d = 2 * (a + b) → d < K → acc.length = i * (2 * a) →
    mat_Of.l0 K ((2 * a : Nat) : Int) (rowl f (2 * (a + b))) ((2 * (a + b) : Nat) : Int) (i : Int) ((2 * (a + b) : Nat) : Int) ((2 * a : Nat) : Int) acc = some (((2 * (a + b) : Nat) : Int), ((2 * a : Nat) : Int), acc ++ cat f i d, none) := by
  intro d
  induction d with
  | zero =>
    intro i acc K hi hK hacc
    obtain ⟨K, rfl⟩ : ∃ m, K = m + 1 := ⟨K - 1, by omega⟩
    rw [mat_Of.l0, if_neg (by omega)]
    simp [cat]
  | succ d ih =>
    intro i acc K hi hK hacc
    obtain ⟨K, rfl⟩ : ∃ m, K = m + 1 := ⟨K - 1, by omega⟩
    have lab := R.lab
    have hlen := R.len i (by omega)
    have hm : i * (2 * a) ≤ 32 * 32 := Nat.mul_le_mul (by omega) (by omega)
    rw [mat_Of.l0, if_pos (by omega), if_pos (by omega), if_pos (by rw [rowl_length]; omega), rd_rowl i (by omega), if_pos (by rw [hlen]), if_pos (by rw [hlen]; omega)]
    have hw : wrap64 ((i : Int) + 1) = ((i + 1 : Nat) : Int) := by unfold wrap64; omega
    rw [hw, ih (i + 1) _ K (by omega) (by omega) (by rw [List.length_append, hlen, hacc, Nat.add_mul]; omega), cat, List.append_assoc]

theorem half_rows_all {a b : Nat} {P : List Int} {f : Nat → List Int} (R : Rows_ a b P f) (K : Nat) (hK : 700 ≤ K) :
    half_Rows.f K (a : Int) (b : Int) = some (((2 * (a + b) : Nat) : Int), ((2 * a : Nat) : Int), cat f 0 (2 * (a + b)), none) := by
  have lab := R.lab
  have la := R.la
  obtain ⟨J, hJ, rfl⟩ : ∃ J, 80 ≤ J ∧ K = J + 2 * (a + b) + 1 := ⟨K - 2 * (a + b) - 1, by omega, by omega⟩
  unfold half_Rows.f
  have hw : wrap64 (2 * wrap64 ((a : Int) + (b : Int))) = ((2 * (a + b) : Nat) : Int) := by unfold wrap64; omega
  have hw2 : wrap64 (2 * (a : Int)) = ((2 * a : Nat) : Int) := by unfold wrap64; omega
  rw [R.par _ (by omega), Option.bind_some, if_pos (show (none : Option Int).isNone = true by rfl), hw]
  have h0 := half_rows_l0 R J hJ (2 * (a + b)) 0 (by omega)
  have e0 : rowl f 0 = ([] : List (List Int)) := rfl
  rw [e0] at h0
  rw [show ((0 : Nat) : Int) = 0 by rfl] at h0
  rw [h0]
  have hs : mat_sized.f ((2 * a : Nat) : Int) = some true := by
    unfold mat_sized.f
    rw [if_pos (by omega), decide_eq_true (by omega)]
  obtain ⟨J, rfl⟩ : ∃ m, J = m + 1 := ⟨J - 1, by omega⟩
  unfold mat_Of.f
  rw [hw2, hs, Option.bind_some, if_pos rfl, rowl_length, decide_eq_false (by omega), mat_Of.j0, if_neg (by decide), rowl_length]
  have h1 := mat_of_l0 R (2 * (a + b)) 0 [] J (by omega) (by omega) (by simp)
  rw [show ((0 : Nat) : Int) = 0 by rfl] at h1
  rw [h1]
  simp

theorem ref_rows_l0 {a b : Nat} {P : List Int} {f : Nat → List Int} (R : Rows_ a b P f) : ∀ (d i : Nat) (acc : List Int) (K : Nat), i + d = 2 * (a + b) → d + 700 < K → acc.length = i * (2 * a) →
    tesseraref05_Rows.l0 K (a : Int) (b : Int) (i : Int) ((2 * (a + b) : Nat) : Int) ((2 * a : Nat) : Int) acc = some (((2 * (a + b) : Nat) : Int), ((2 * a : Nat) : Int), acc ++ cat f i d) := by
  intro d
  induction d with
  | zero =>
    intro i acc K hi hK hacc
    obtain ⟨K, rfl⟩ : ∃ m, K = m + 1 := ⟨K - 1, by omega⟩
    rw [tesseraref05_Rows.l0, if_neg (by omega)]
    simp [cat]
  | succ d ih =>
    intro i acc K hi hK hacc
    obtain ⟨K, rfl⟩ : ∃ m, K = m + 1 := ⟨K - 1, by omega⟩
    have lab := R.lab
    have hlen := R.len i (by omega)
    have hm : i * (2 * a) ≤ 32 * 32 := Nat.mul_le_mul (by omega) (by omega)
    rw [tesseraref05_Rows.l0, if_pos (by omega), R.ref i (by omega) K (by omega), Option.bind_some, if_pos (by rw [hlen]; omega)]
    have hw : wrap64 ((i : Int) + 1) = ((i + 1 : Nat) : Int) := by unfold wrap64; omega
    rw [hw, ih (i + 1) _ K (by omega) (by omega) (by rw [List.length_append, hlen, hacc, Nat.add_mul]; omega), cat, List.append_assoc]

theorem ref_rows_all {a b : Nat} {P : List Int} {f : Nat → List Int} (R : Rows_ a b P f) (K : Nat) (hK : 800 ≤ K) :
    tesseraref05_Rows.f K (a : Int) (b : Int) = some (((2 * (a + b) : Nat) : Int), ((2 * a : Nat) : Int), cat f 0 (2 * (a + b))) := by
  have lab := R.lab
  unfold tesseraref05_Rows.f
  have hw : wrap64 (2 * wrap64 ((a : Int) + (b : Int))) = ((2 * (a + b) : Nat) : Int) := by unfold wrap64; omega
  have hw2 : wrap64 (2 * (a : Int)) = ((2 * a : Nat) : Int) := by unfold wrap64; omega
  rw [hw, hw2]
  have h1 := ref_rows_l0 R (2 * (a + b)) 0 [] K (by omega) (by omega) (by simp)
  rw [show ((0 : Nat) : Int) = 0 by rfl] at h1
  rw [h1]
  simp

theorem cat_length {a b : Nat} {P : List Int} {f : Nat → List Int} (R : Rows_ a b P f) : ∀ (d i : Nat), i + d ≤ 2 * (a + b) → (cat f i d).length = d * (2 * a) := by
  intro d
  induction d with
  | zero => intro i hi; simp [cat]
  | succ d ih => intro i hi; rw [cat, List.length_append, ih (i + 1) (by omega), R.len i (by omega), Nat.add_mul]; omega

theorem apart_l1 (x0 : List Int) (x5 : ByteArray) (he : (strOfNums x0).toList = x5.toList) : ∀ (d : Nat) (x1 : List Int) (i : Nat) (K : Nat), i + d = x1.length → x1.length ≤ 4096 → d < K →
    tesseranum_Apart.l1 K x0 x1 x5 (i : Int) = some true := by
  intro d
  induction d with
  | zero =>
    intro x1 i K hi hl hK
    obtain ⟨K, rfl⟩ : ∃ m, K = m + 1 := ⟨K - 1, by omega⟩
    rw [tesseranum_Apart.l1, if_neg (by omega), he]
    simp
  | succ d ih =>
    intro x1 i K hi hl hK
    obtain ⟨K, rfl⟩ : ∃ m, K = m + 1 := ⟨K - 1, by omega⟩
    have hw : wrap64 ((i : Int) + 1) = ((i + 1 : Nat) : Int) := by unfold wrap64; omega
    rw [tesseranum_Apart.l1, if_pos (by omega), if_pos (by omega), hw]
    exact ih _ (i + 1) K (by rw [List.length_set]; omega) (by rw [List.length_set]; exact hl) (by omega)
theorem apart_l0 (x0 : List Int) (x5 : ByteArray) (he : (strOfNums x0).toList = x5.toList) (n : Nat) (hn : n ≤ 1024) : ∀ (d : Nat) (x1 : List Int) (i : Nat) (K : Nat), i + d = n → x1.length = n → d + n + 10 < K →
    tesseranum_Apart.l0 K x0 x1 x5 (n : Int) (i : Int) = some true := by
  intro d
  induction d with
  | zero =>
    intro x1 i K hi hl hK
    obtain ⟨K, rfl⟩ : ∃ m, K = m + 1 := ⟨K - 1, by omega⟩
    rw [tesseranum_Apart.l0, if_neg (by omega), if_pos he, Option.bind_some, if_pos (by simp; omega)]
    have := apart_l1 x0 x5 he 8 (x1 ++ [7, 7, 7, 7, 7, 7, 7, 7]) x1.length K (by simp) (by simp; omega) (by omega)
    rw [hl] at this ⊢
    exact this
  | succ d ih =>
    intro x1 i K hi hl hK
    obtain ⟨K, rfl⟩ : ∃ m, K = m + 1 := ⟨K - 1, by omega⟩
    have hw : wrap64 ((i : Int) + 1) = ((i + 1 : Nat) : Int) := by unfold wrap64; omega
    rw [tesseranum_Apart.l0, if_pos (by omega), if_pos (by omega), if_pos (by omega), hw]
    exact ih _ (i + 1) K (by omega) (by rw [List.length_set]; exact hl) (by omega)
theorem apart_true (x y : List Int) (h : y.length ≤ 1024) (K : Nat) (hK : 2 * y.length + 10 < K) : tesseranum_Apart.f K x y = some true := by
  unfold tesseranum_Apart.f
  have := apart_l0 x (strOfNums x) rfl y.length h y.length y 0 K (by omega) rfl (by omega)
  rw [show ((0 : Nat) : Int) = 0 by rfl] at this
  exact this
end Go.Proofs.YtnnondbimdmcaaaDoor.Plain

namespace Go.Proofs.YtnnondbimdmcaaaDoor.Pure
open Go.RowKit Go.Proofs.YtnnondbimdmcaaaDoorW.PrintWords Go.Proofs.YtnnondbimdmcaaaDoorW.PrintLast Go.Proofs.YtnnondbimdmcaaaDoor.F Go.Proofs.YtnnondbimdmcaaaDoor.Plain
set_option linter.unusedVariables false

theorem rows_alive : tesseralaw05_alive.f 2000 = some true := at_rounds (g := fun K => tesseralaw05_alive.f K) (@tesseralaw05_alive.mono someErrs) (by decide : 320 ≤ 2000) (by kernel_rfl)

theorem HalfRows : ∀ (a0 : Int) (a1 : Int) (a2 : Int), (Lit.int .i64 a0).wf = true → (Lit.int .i64 a1).wf = true → (Lit.int .i64 a2).wf = true → ∃ k, F.tesseralaw05_HalfRows.f k a0 a1 a2 = some true := by
  intro a b h ha hb hh
  refine ⟨2000, ?_⟩
  unfold tesseralaw05_HalfRows.f
  rw [rows_alive, Option.bind_some, if_pos rfl]
  rcases legal_cases a b with ⟨A, B, rfl, rfl, hl, hL, hC⟩ | ⟨hL, hC⟩
  · obtain ⟨P, f, R⟩ : ∃ P f, Rows_ A B P f := ⟨_, _, rows_of A B hl⟩
    have la := R.la
    have lab := R.lab
    have hw : wrap64 (2 * wrap64 ((A : Int) + (B : Int))) = ((2 * (A + B) : Nat) : Int) := by unfold wrap64; omega
    have hrows := half_rows_all R 2000 (by omega)
    have href := ref_rows_all R 2000 (by omega)
    rw [hrows, href, hL]
    have hsame : tesseranum_SameMatrix.f ((2 * (A + B) : Nat) : Int) ((2 * A : Nat) : Int) (cat f 0 (2 * (A + B))) ((2 * (A + B) : Nat) : Int) ((2 * A : Nat) : Int) (cat f 0 (2 * (A + B))) = some true := by
      unfold tesseranum_SameMatrix.f
      rw [if_pos rfl, if_pos rfl]; simp
    by_cases hr : h < 0 ∨ h ≥ ((2 * (A + B) : Nat) : Int)
    · have hrow : half_Row.f 2000 (A : Int) (B : Int) h = some ([], some 4) := by
        unfold half_Row.f half_check.f
        rw [hC, Option.bind_some, if_pos (show (none : Option Int).isNone = true by rfl), hw]
        rcases hr with hr | hr
        · rw [if_pos hr]; rfl
        · by_cases h0 : h < 0
          · rw [if_pos h0]; rfl
          · rw [if_neg h0, if_pos hr]; rfl
      rw [hrow]
      simp only [Option.bind_some]
      rw [if_pos trivial, if_pos (show isNil (none : Option Int) = true by rfl), hsame, Option.bind_some]
      have hj1 : ∀ K, tesseralaw05_HalfRows.j1 (K + 1) (A : Int) (B : Int) h [] (some 4) true ((2 * (A + B) : Nat) : Int) ((2 * A : Nat) : Int) (cat f 0 (2 * (A + B))) = some true := by
        intro K
        rw [tesseralaw05_HalfRows.j1, if_pos rfl, if_pos (by decide), if_pos (by decide)]; rfl
      have hj0 : ∀ K, tesseralaw05_HalfRows.j0 (K + 2) (A : Int) (B : Int) h [] (some 4) (!true) ((2 * (A + B) : Nat) : Int) ((2 * A : Nat) : Int) (cat f 0 (2 * (A + B))) = some true := by
        intro K
        rw [tesseralaw05_HalfRows.j0, if_neg (by decide), hw]
        by_cases h0 : h < 0
        · rw [if_pos h0]; exact hj1 K
        · rw [if_neg h0, decide_eq_true (by omega)]; exact hj1 K
      exact hj0 1998
    · obtain ⟨H, rfl⟩ : ∃ H : Nat, h = H := ⟨h.toNat, by omega⟩
      have hH : H < 2 * (A + B) := by omega
      have hrow : half_Row.f 2000 (A : Int) (B : Int) (H : Int) = some (f H, none) := by
        unfold half_Row.f half_check.f
        rw [hC, Option.bind_some, if_pos (show (none : Option Int).isNone = true by rfl), hw, if_neg (by omega), if_neg (by omega), Option.bind_some, if_pos (show (none : Option Int).isNone = true by rfl), R.par _ (by omega), Option.bind_some, if_pos (show (none : Option Int).isNone = true by rfl), half_at_of H (by omega), Option.bind_some, R.row H hH _ (by omega), Option.bind_some]
      rw [hrow]
      simp only [Option.bind_some]
      rw [if_pos trivial, if_pos (show isNil (none : Option Int) = true by rfl), hsame, Option.bind_some]
      have hap := apart_true (cat f 0 (2 * (A + B))) (f H) (by rw [R.len H hH]; omega)
      have hlen := R.len H hH
      have hj1 : ∀ K, 800 ≤ K → tesseralaw05_HalfRows.j1 (K + 1) (A : Int) (B : Int) (H : Int) (f H) none false ((2 * (A + B) : Nat) : Int) ((2 * A : Nat) : Int) (cat f 0 (2 * (A + B))) = some true := by
        intro K hK
        rw [tesseralaw05_HalfRows.j1, if_neg (by decide), if_pos (show isNil (none : Option Int) = true by rfl), R.ref H hH K (by omega), Option.bind_some, if_pos rfl, hap K (by omega), Option.bind_some]
      have hj0 : ∀ K, 800 ≤ K → tesseralaw05_HalfRows.j0 (K + 2) (A : Int) (B : Int) (H : Int) (f H) none (!true) ((2 * (A + B) : Nat) : Int) ((2 * A : Nat) : Int) (cat f 0 (2 * (A + B))) = some true := by
        intro K hK
        rw [tesseralaw05_HalfRows.j0, if_neg (by decide), hw, if_neg (by omega), decide_eq_false (by omega)]
        exact hj1 K hK
      exact hj0 1998 (by omega)
  · have hrow : half_Row.f 2000 a b h = some ([], some 1) := by
      unfold half_Row.f half_check.f
      rw [hC]; rfl
    have hrows : half_Rows.f 2000 a b = some (0, 0, [], some 1) := by
      unfold half_Rows.f base_Parity.f
      rw [hC]; rfl
    rw [hrow, hrows, hL]
    rfl

end Go.Proofs.YtnnondbimdmcaaaDoor.Pure

namespace Go.Proofs.YtnnondbimdmcaaaDoor.halfRows
open Go.ChangeShapes Go.WideShapes Go.ChangeAt Go.RowKit
open Go.ChangeMaps (open_string shut_string)
set_option linter.unusedVariables false
set_option linter.unusedSimpArgs false
theorem gErrParams : Tryd.prog.globalNamed "tessera/api.ErrParams" = some 0 := by kernel_rfl
theorem tErrParams : (Tryd.prog.globals[0]?).map (·.type) = some 27 := by kernel_rfl
theorem gErrShape : Tryd.prog.globalNamed "tessera/api.ErrShape" = some 3 := by kernel_rfl
theorem tErrShape : (Tryd.prog.globals[3]?).map (·.type) = some 27 := by kernel_rfl
theorem gErrHalf : Tryd.prog.globalNamed "tessera/api.ErrHalf" = some 1 := by kernel_rfl
theorem tErrHalf : (Tryd.prog.globals[1]?).map (·.type) = some 27 := by kernel_rfl
theorem gErrNumber : Tryd.prog.globalNamed "tessera/api.ErrNumber" = some 2 := by kernel_rfl
theorem tErrNumber : (Tryd.prog.globals[2]?).map (·.type) = some 27 := by kernel_rfl
theorem cellsE : Tryd.prog.cellsOf 127 = 1 := by kernel_rfl
theorem cellsT : Tryd.prog.cellsOf 9 = 1 := by kernel_rfl
theorem star : "*" ++ "errors.errorString" = "*errors.errorString" := by decide
theorem rowE (u : TypeId) (h : Tryd.prog.typeName? 3 u = some "*errors.errorString") : u = 111 :=
  typeName_ptr_named (nm := "errors.errorString") (by rw [star]; kernel_rfl) (by kernel_rfl) (by decide) u (by rw [star]; exact h)
set_option maxRecDepth 100000 in
/-- The listed sentinels, each at a place of its own. -/
theorem sentinels {W : World} (h : laidMet Tryd.prog [("tessera/api.ErrParams", Rows.laid_tessera_api_ErrParams), ("tessera/api.ErrShape", Rows.laid_tessera_api_ErrShape), ("tessera/api.ErrHalf", Rows.laid_tessera_api_ErrHalf), ("tessera/api.ErrNumber", Rows.laid_tessera_api_ErrNumber)] W) : ∃ E : Errs, @Sent E [1, 2, 4, 12] W := by
  obtain ⟨ps, ⟨g0, t0, cs0, f0, p0, q0, hg0, ht0, hv0, hd0, ⟨g1, t1, cs1, f1, p1, q1, hg1, ht1, hv1, hd1, ⟨g2, t2, cs2, f2, p2, q2, hg2, ht2, hv2, hd2, ⟨g3, t3, cs3, f3, p3, q3, hg3, ht3, hv3, hd3, hq, e3⟩, e2⟩, e1⟩, e0⟩, hnd, hrows⟩ := h
  obtain rfl := Option.some.inj (gErrParams.symm.trans hg0)
  obtain rfl := Option.some.inj (tErrParams.symm.trans ht0)
  obtain rfl := Option.some.inj (gErrShape.symm.trans hg1)
  obtain rfl := Option.some.inj (tErrShape.symm.trans ht1)
  obtain rfl := Option.some.inj (gErrHalf.symm.trans hg2)
  obtain rfl := Option.some.inj (tErrHalf.symm.trans ht2)
  obtain rfl := Option.some.inj (gErrNumber.symm.trans hg3)
  obtain rfl := Option.some.inj (tErrNumber.symm.trans ht3)
  have hq' : q3 = [] := hq
  subst hq'
  subst e3
  subst e2
  subst e1
  subst e0
  obtain ⟨l0⟩ := cs0
  have ok0 : ∀ u v, l0 = [.iface u v] → Value.okWide Tryd.prog W .any 0 u v := fun u v e => by
    subst e
    exact (hrows 0 0 (by simp [MemPlace.row])).2 u v (by simpa using World.var?_cell hg0 hv0 0)
  obtain ⟨a0, s0, rfl, hc0, hs0, hz0, rfl⟩ := errorString_of_trod Tryd.underlying27 rowE Tryd.underlying111 Tryd.underlying127 rfl rfl Tryd.underlying9 cellsE cellsT hd0 ok0
  have hcell0 : W.cell? ⟨0, 0, none⟩ = some (.iface 111 (.pointer (some a0))) := by simpa using World.var?_cell hg0 hv0 0
  have hblk0 := (hrows a0.block a0.off (by simp [MemPlace.row])).1
  obtain ⟨l1⟩ := cs1
  have ok1 : ∀ u v, l1 = [.iface u v] → Value.okWide Tryd.prog W .any 0 u v := fun u v e => by
    subst e
    exact (hrows 3 0 (by simp [MemPlace.row])).2 u v (by simpa using World.var?_cell hg1 hv1 0)
  obtain ⟨a1, s1, rfl, hc1, hs1, hz1, rfl⟩ := errorString_of_trod Tryd.underlying27 rowE Tryd.underlying111 Tryd.underlying127 rfl rfl Tryd.underlying9 cellsE cellsT hd1 ok1
  have hcell1 : W.cell? ⟨3, 0, none⟩ = some (.iface 111 (.pointer (some a1))) := by simpa using World.var?_cell hg1 hv1 0
  have hblk1 := (hrows a1.block a1.off (by simp [MemPlace.row])).1
  obtain ⟨l2⟩ := cs2
  have ok2 : ∀ u v, l2 = [.iface u v] → Value.okWide Tryd.prog W .any 0 u v := fun u v e => by
    subst e
    exact (hrows 1 0 (by simp [MemPlace.row])).2 u v (by simpa using World.var?_cell hg2 hv2 0)
  obtain ⟨a2, s2, rfl, hc2, hs2, hz2, rfl⟩ := errorString_of_trod Tryd.underlying27 rowE Tryd.underlying111 Tryd.underlying127 rfl rfl Tryd.underlying9 cellsE cellsT hd2 ok2
  have hcell2 : W.cell? ⟨1, 0, none⟩ = some (.iface 111 (.pointer (some a2))) := by simpa using World.var?_cell hg2 hv2 0
  have hblk2 := (hrows a2.block a2.off (by simp [MemPlace.row])).1
  obtain ⟨l3⟩ := cs3
  have ok3 : ∀ u v, l3 = [.iface u v] → Value.okWide Tryd.prog W .any 0 u v := fun u v e => by
    subst e
    exact (hrows 2 0 (by simp [MemPlace.row])).2 u v (by simpa using World.var?_cell hg3 hv3 0)
  obtain ⟨a3, s3, rfl, hc3, hs3, hz3, rfl⟩ := errorString_of_trod Tryd.underlying27 rowE Tryd.underlying111 Tryd.underlying127 rfl rfl Tryd.underlying9 cellsE cellsT hd3 ok3
  have hcell3 : W.cell? ⟨2, 0, none⟩ = some (.iface 111 (.pointer (some a3))) := by simpa using World.var?_cell hg3 hv3 0
  have hblk3 := (hrows a3.block a3.off (by simp [MemPlace.row])).1
  have hne0_1 : a0 ≠ a1 := by
    intro e
    rw [e] at hnd
    simp [MemPlace.row] at hnd
  have hne0_2 : a0 ≠ a2 := by
    intro e
    rw [e] at hnd
    simp [MemPlace.row] at hnd
  have hne0_3 : a0 ≠ a3 := by
    intro e
    rw [e] at hnd
    simp [MemPlace.row] at hnd
  have hne1_2 : a1 ≠ a2 := by
    intro e
    rw [e] at hnd
    simp [MemPlace.row] at hnd
  have hne1_3 : a1 ≠ a3 := by
    intro e
    rw [e] at hnd
    simp [MemPlace.row] at hnd
  have hne2_3 : a2 ≠ a3 := by
    intro e
    rw [e] at hnd
    simp [MemPlace.row] at hnd
  refine ⟨⟨fun c => if c = 1 then a0 else if c = 2 then a1 else if c = 4 then a2 else if c = 12 then a3 else default⟩, ?_⟩
  refine @Sent.mk ⟨fun c => if c = 1 then a0 else if c = 2 then a1 else if c = 4 then a2 else if c = 12 then a3 else default⟩ _ W ?_ ?_ ?_
  · intro c hc
    simp only [List.mem_cons, List.not_mem_nil, or_false] at hc
    rcases hc with rfl | rfl | rfl | rfl
    · exact hcell0
    · exact hcell1
    · exact hcell2
    · exact hcell3
  · intro c hc
    simp only [List.mem_cons, List.not_mem_nil, or_false] at hc
    rcases hc with rfl | rfl | rfl | rfl
    · exact hblk0
    · exact hblk1
    · exact hblk2
    · exact hblk3
  · intro c d hc hd e
    simp only [List.mem_cons, List.not_mem_nil, or_false] at hc hd
    rcases hc with rfl | rfl | rfl | rfl <;> rcases hd with rfl | rfl | rfl | rfl <;> first | rfl | exact absurd e hne0_1 | exact absurd e hne0_1.symm | exact absurd e hne0_2 | exact absurd e hne0_2.symm | exact absurd e hne0_3 | exact absurd e hne0_3.symm | exact absurd e hne1_2 | exact absurd e hne1_2.symm | exact absurd e hne1_3 | exact absurd e hne1_3.symm | exact absurd e hne2_3 | exact absurd e hne2_3.symm
end Go.Proofs.YtnnondbimdmcaaaDoor.halfRows
