/- The halves' names: of every legal k and r both texts tell the same names, and no two halves have one name. -/
import Derived.Test.YtnnondbimdmcaaaDoorF16
import Derived.Test.YtnnondbimdmcaaaDoorF17
import Derived.Test.YtnnondbimdmcaaaDoorF11
import Derived.KernelRfl
namespace Go.Proofs.YtnnondbimdmcaaaDoor.Plain
open Go.RowKit Go.Proofs.YtnnondbimdmcaaaDoorW.PrintWords Go.Proofs.YtnnondbimdmcaaaDoorW.PrintLast Go.Proofs.YtnnondbimdmcaaaDoor.F
set_option linter.unusedVariables false
abbrev nameErrs : Errs := ⟨fun _ => ⟨0, 0, none⟩⟩
attribute [local instance] nameErrs

def nm (a b h : Nat) : ByteArray := ((half_Name.f a b h).map (·.1)).getD ⟨#[]⟩
def nmOk (a b : Nat) : Bool :=
  ((List.range (2 * (a + b))).all fun h => decide (half_Name.f (a : Int) (b : Int) (h : Int) = some (nm a b h, none)) && decide (tesseraref05_Name.f 20 (a : Int) (h : Int) = some (nm a b h))) &&
  decide (((List.range (2 * (a + b))).map fun h => (nm a b h).toList).Nodup)
def legalB (a b : Nat) : Bool := decide (1 ≤ a) && decide (2 ≤ b) && decide (a + b ≤ 16)
theorem nm_all : ((List.range 17).all fun a => (List.range 17).all fun b => !(legalB a b) || nmOk a b) = true := by kernel_rfl

/-- Legal or not: what the two texts ask. -/
theorem legal_cases (a b : Int) :
    (∃ A B : Nat, a = A ∧ b = B ∧ legalB A B = true ∧ tesseraref04_Legal.f a b = some true ∧ base_Check.f a b = some none) ∨
    (tesseraref04_Legal.f a b = some false ∧ base_Check.f a b = some (some 1)) := by
  by_cases c : 1 ≤ a ∧ 2 ≤ b ∧ b ≤ 16 ∧ a + b ≤ 16
  · obtain ⟨c0, c1, c2, c3⟩ := c
    left
    refine ⟨a.toNat, b.toNat, by omega, by omega, ?_, ?_, ?_⟩
    · simp [legalB]; omega
    · unfold tesseraref04_Legal.f
      have : wrap64 (a + b) = a + b := by unfold wrap64; omega
      rw [if_pos (by omega), if_pos (by omega), if_pos (by omega), if_pos (by omega), this, decide_eq_true (by omega)]
    · unfold base_Check.f
      have : wrap64 (16 - a) = 16 - a := by unfold wrap64; omega
      rw [if_neg (by omega), if_neg (by omega), if_neg (by omega), this, if_neg (by omega)]
  · right
    constructor
    · unfold tesseraref04_Legal.f
      by_cases c0 : a ≥ 1
      · by_cases c1 : a ≤ 16
        · by_cases c2 : b ≥ 2
          · by_cases c3 : b ≤ 16
            · have : wrap64 (a + b) = a + b := by unfold wrap64; omega
              rw [if_pos c0, if_pos c1, if_pos c2, if_pos c3, this, decide_eq_false (by omega)]
            · rw [if_pos c0, if_pos c1, if_pos c2, if_neg c3]
          · rw [if_pos c0, if_pos c1, if_neg c2]
        · rw [if_pos c0, if_neg c1]
      · rw [if_neg c0]
    · unfold base_Check.f
      by_cases c0 : a < 1
      · rw [if_pos c0]
      · by_cases c1 : a ≥ 16
        · rw [if_neg c0, if_pos c1]
        · by_cases c2 : b < 2
          · rw [if_neg c0, if_neg c1, if_pos c2]
          · have : wrap64 (16 - a) = 16 - a := by unfold wrap64; omega
            rw [if_neg c0, if_neg c1, if_neg c2, this, if_pos (by omega)]

structure Names (a b : Nat) : Prop where
  la : 1 ≤ a
  lb : 2 ≤ b
  lab : a + b ≤ 16
  name : ∀ h, h < 2 * (a + b) → half_Name.f (a : Int) (b : Int) (h : Int) = some (nm a b h, none)
  ref : ∀ h, h < 2 * (a + b) → ∀ K, 20 ≤ K → tesseraref05_Name.f K (a : Int) (h : Int) = some (nm a b h)
  apart : ∀ g h, g < h → h < 2 * (a + b) → (nm a b g).toList ≠ (nm a b h).toList

theorem names_of (a b : Nat) (h : legalB a b = true) : Names a b := by
  have hl : (1 ≤ a ∧ 2 ≤ b) ∧ a + b ≤ 16 := by simpa [legalB] using h
  obtain ⟨⟨la, lb⟩, lab⟩ := hl
  have h1 := List.all_eq_true.1 nm_all a (List.mem_range.2 (by omega))
  have h2 := List.all_eq_true.1 h1 b (List.mem_range.2 (by omega))
  rw [h, Bool.not_true, Bool.false_or] at h2
  unfold nmOk at h2
  rw [Bool.and_eq_true] at h2
  obtain ⟨h3, h4⟩ := h2
  have h5 : ∀ g, g < 2 * (a + b) → _ := fun g hg => List.all_eq_true.1 h3 g (List.mem_range.2 hg)
  have hn := of_decide_eq_true h4
  refine ⟨la, lb, lab, fun g hg => ?_, fun g hg K hK => ?_, fun g h' hgh hh => ?_⟩
  · have := h5 g hg
    rw [Bool.and_eq_true] at this
    exact of_decide_eq_true this.1
  · have := h5 g hg
    rw [Bool.and_eq_true] at this
    exact at_rounds (g := fun K => tesseraref05_Name.f K (a : Int) (g : Int)) (tesseraref05_Name.mono _ _) hK (of_decide_eq_true this.2)
  · rw [List.nodup_iff_pairwise_ne, List.pairwise_iff_getElem] at hn
    have := hn g h' (by simp; omega) (by simp; omega) hgh
    simpa using this

/-- The first half from i on of a name, d halves looked at. -/
def fm (a b : Nat) (t : ByteArray) : Nat → Nat → Option Nat
  | _, 0 => none
  | i, d + 1 => if (nm a b i).toList = t.toList then some i else fm a b t (i + 1) d
def res : Option Nat → Int × Option Int
  | none => (0, some 4)
  | some h => ((h : Int), none)

theorem parse_from {a b : Nat} (N : Names a b) (t : ByteArray) : ∀ (d i K : Nat), i + d = 2 * (a + b) → d < K →
    half_Parse.l0 K (a : Int) (b : Int) t ((2 * (a + b) : Nat) : Int) (i : Int) = some (res (fm a b t i d)) := by
  intro d
  induction d with
  | zero =>
    intro i K hi hK
    obtain ⟨K, rfl⟩ : ∃ m, K = m + 1 := ⟨K - 1, by omega⟩
    rw [half_Parse.l0, if_neg (by omega)]; rfl
  | succ d ih =>
    intro i K hi hK
    obtain ⟨K, rfl⟩ : ∃ m, K = m + 1 := ⟨K - 1, by omega⟩
    have lab := N.lab
    rw [half_Parse.l0, if_pos (by omega), N.name i (by omega), Option.bind_some]
    have hw : wrap64 ((i : Int) + 1) = ((i + 1 : Nat) : Int) := by unfold wrap64; omega
    rw [fm]
    by_cases e : (nm a b i).toList = t.toList
    · rw [if_pos e, if_pos e]; rfl
    · rw [if_neg e, if_neg e, hw]
      exact ih (i + 1) K (by omega) (by omega)

theorem parse_all {a b : Nat} (N : Names a b) (hc : base_Check.f (a : Int) (b : Int) = some none) (t : ByteArray) (K : Nat) (hK : 2 * (a + b) < K) :
    half_Parse.f K (a : Int) (b : Int) t = some (res (fm a b t 0 (2 * (a + b)))) := by
  unfold half_Parse.f
  have lab := N.lab
  have hw : wrap64 (2 * wrap64 ((a : Int) + (b : Int))) = ((2 * (a + b) : Nat) : Int) := by unfold wrap64; omega
  rw [hc, Option.bind_some, if_pos (show (none : Option Int).isNone = true by rfl), hw]
  exact parse_from N t _ 0 K (by omega) hK

theorem fm_own {a b : Nat} (N : Names a b) (h : Nat) (hh : h < 2 * (a + b)) : ∀ (d i : Nat), i + d = 2 * (a + b) → i ≤ h → fm a b (nm a b h) i d = some h := by
  intro d
  induction d with
  | zero => intro i hi hle; omega
  | succ d ih =>
    intro i hi hle
    rw [fm]
    rcases Nat.lt_or_ge i h with hlt | hge
    · rw [if_neg (N.apart i h hlt hh)]
      exact ih (i + 1) (by omega) (by omega)
    · have e : i = h := by omega
      subst e
      rw [if_pos rfl]
end Go.Proofs.YtnnondbimdmcaaaDoor.Plain
