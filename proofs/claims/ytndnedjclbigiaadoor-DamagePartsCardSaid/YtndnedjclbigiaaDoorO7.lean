/- The program's field functions, as the field's: products, inverses, a row and a multiple of another. -/
import Derived.Test.YtndnedjclbigiaaDoorO3
import Derived.Test.YtndnedjclbigiaaDoorO1
import Derived.Laws.BitsAllLaws
namespace Go.Proofs.YtndnedjclbigiaaDoor.Lin
open Go.RowKit Go.Proofs.YtndnedjclbigiaaDoorW.PrintWords Go.Proofs.YtndnedjclbigiaaDoorW.PrintLast Go.Proofs.YtndnedjclbigiaaDoor.F
set_option linter.unusedVariables false
abbrev linErrs : Errs := ⟨fun _ => ⟨0, 0, none⟩⟩
attribute [local instance] linErrs

def byte (x : Int) : Prop := 0 ≤ x ∧ x < 256
def bytes (l : List Int) : Prop := ∀ x, x ∈ l → byte x
def ph (x : Int) : GF := BitVec.ofNat 8 x.toNat
def co (row : List Int) (j : Nat) : GF := ph (row.getD j 0)
theorem ph_toNat (x : GF) : ph (x.toNat : Int) = x := by unfold ph; rw [Int.toNat_natCast, BitVec.ofNat_toNat, BitVec.setWidth_eq]
theorem toNat_ph {x : Int} (h : byte x) : ((ph x).toNat : Int) = x := by
  unfold ph
  have := h.1; have := h.2
  rw [BitVec.toNat_ofNat]; omega
theorem byte_toNat (x : GF) : byte (x.toNat : Int) := ⟨by omega, by have := x.isLt; omega⟩
theorem ph_zero_iff {x : Int} (h : byte x) : ph x = 0#8 ↔ x = 0 := by
  constructor
  · intro e
    have := toNat_ph h
    rw [e] at this
    simpa using this.symm
  · rintro rfl; rfl
theorem ph_xor {a b : Int} (ha : byte a) (hb : byte b) : ph (Go.bits .xor .u8 a b) = ph a ^^^ ph b ∧ byte (Go.bits .xor .u8 a b) := by
  rw [u8_xor a b ha.1 ha.2 hb.1 hb.2]
  have h1 : a.toNat ^^^ b.toNat < 256 := Nat.xor_lt_two_pow (n := 8) (by have := ha.1; have := ha.2; omega) (by have := hb.1; have := hb.2; omega)
  refine ⟨?_, by omega, by omega⟩
  unfold ph
  rw [Int.toNat_natCast, BitVec.ofNat_xor]
theorem ofInt_i64 (a : Nat) (ha : a < 256) : (BitVec.ofInt 64 (a : Int)).toNat = a := by
  rw [BitVec.ofInt_natCast, BitVec.toNat_ofNat]; exact Nat.mod_eq_of_lt (by omega)
theorem xor64 {a b : Int} (ha : byte a) (hb : byte b) : Go.bits .xor .i64 a b = (((ph a) ^^^ (ph b)).toNat : Int) := by
  obtain ⟨A, rfl⟩ : ∃ n : Nat, a = n := ⟨a.toNat, by have := ha.1; omega⟩
  obtain ⟨B, rfl⟩ : ∃ n : Nat, b = n := ⟨b.toNat, by have := hb.1; omega⟩
  have hA : A < 256 := by have := ha.2; omega
  have hB : B < 256 := by have := hb.2; omega
  have hx : A ^^^ B < 2 ^ 8 := Nat.xor_lt_two_pow (by omega) (by omega)
  show IntKind.i64.wrap ((BitVec.ofInt 64 (A : Int) ^^^ BitVec.ofInt 64 (B : Int)).toNat : Int) = _
  have e1 := toNat_ph ha
  have e2 := toNat_ph hb
  have e3 : (ph (A : Int)).toNat = A := by omega
  have e4 : (ph (B : Int)).toNat = B := by omega
  rw [BitVec.toNat_xor, ofInt_i64 A hA, ofInt_i64 B hB, IntKind.wrap_i64, BitVec.toNat_xor, e3, e4]
  omega

theorem and_all : ((List.range 256).all fun n => decide (Go.bits .and .i64 (n : Int) 1 = ((n % 2 : Nat) : Int)) && decide (gf_double.f (n : Int) = some (((dbl (BitVec.ofNat 8 n)).toNat : Nat) : Int))) = true := by kernel_rfl
theorem and_one {y : Nat} (h : y < 256) : Go.bits .and .i64 (y : Int) 1 = ((y % 2 : Nat) : Int) := by
  have := List.all_eq_true.1 and_all y (List.mem_range.2 h)
  rw [Bool.and_eq_true] at this
  exact of_decide_eq_true this.1
theorem double_of {x : Int} (h : byte x) : gf_double.f x = some ((dbl (ph x)).toNat : Int) := by
  obtain ⟨n, rfl⟩ : ∃ n : Nat, x = n := ⟨x.toNat, by have := h.1; omega⟩
  have := List.all_eq_true.1 and_all n (List.mem_range.2 (by have := h.2; omega))
  rw [Bool.and_eq_true] at this
  have := of_decide_eq_true this.2
  rw [this]
  unfold ph
  rw [Int.toNat_natCast]
theorem mulN_zero (n : Nat) : ∀ x : GF, mulN n x 0 = 0#8 := by
  induction n with
  | zero => intro x; rfl
  | succ n ih => intro x; rw [mulN, Nat.zero_div, ih]; simp
theorem mul_l0 : ∀ (n : Nat) (K : Nat) (o x : Int) (y : Nat), byte o → byte x → y < 256 → y < 2 ^ n → n < K → gf_Mul.l0 K o x (y : Int) = some (((ph o ^^^ mulN n (ph x) y).toNat : Nat) : Int) := by
  intro n
  induction n with
  | zero =>
    intro K o x y ho hx hy hn hK
    obtain ⟨K, rfl⟩ : ∃ m, K = m + 1 := ⟨K - 1, by omega⟩
    have hy0 : y = 0 := by simpa using hn
    subst hy0
    rw [gf_Mul.l0, if_neg (by decide), mulN_zero, BitVec.xor_zero, toNat_ph ho]
    have := ho.1; have := ho.2
    congr 1; omega
  | succ n ih =>
    intro K o x y ho hx hy hn hK
    obtain ⟨K, rfl⟩ : ∃ m, K = m + 1 := ⟨K - 1, by omega⟩
    rw [gf_Mul.l0]
    by_cases h0 : y = 0
    · subst h0
      rw [if_neg (by decide), mulN_zero, BitVec.xor_zero, toNat_ph ho]
      have := ho.1; have := ho.2
      congr 1; omega
    · have hd : ((y : Int) / 2) = ((y / 2 : Nat) : Int) := by omega
      rw [if_pos (by omega), and_one hy, double_of hx, hd, Option.bind_some, Option.bind_some]
      have h2 : y / 2 < 2 ^ n := by rw [Nat.pow_succ] at hn; omega
      by_cases h1 : y % 2 = 1
      · rw [if_pos (by omega), xor64 ho hx, ih K _ _ (y / 2) (byte_toNat _) (byte_toNat _) (by omega) h2 (by omega), ph_toNat, ph_toNat, mulN, if_pos h1, BitVec.xor_assoc]
      · rw [if_neg (by omega), ih K _ _ (y / 2) ho (byte_toNat _) (by omega) h2 (by omega), ph_toNat, mulN, if_neg h1]
        simp
theorem mul_of {x y : Int} (hx : byte x) (hy : byte y) (K : Nat) (hK : 9 ≤ K) : gf_Mul.f K x y = some (((mul (ph x) (ph y)).toNat : Nat) : Int) := by
  unfold gf_Mul.f
  have e1 : wrap64 x = x := by have := hx.1; have := hx.2; unfold wrap64; omega
  have e2 : wrap64 y = ((y.toNat : Nat) : Int) := by have := hy.1; have := hy.2; unfold wrap64; omega
  rw [e1, e2, mul_l0 8 K 0 x y.toNat ⟨by omega, by omega⟩ hx (by have := hy.2; omega) (by have := hy.2; omega) (by omega)]
  have e3 : ph 0 = 0#8 := rfl
  rw [e3, BitVec.zero_xor]
  unfold mul
  have e4 : (ph y).toNat = y.toNat := by have := toNat_ph hy; omega
  rw [e4]

def invOk (n : Nat) : Bool := match gf_Inv.f 20 (n : Int) with
  | some (t, true) => decide (0 ≤ t) && decide (t < 256) && decide (mul (BitVec.ofNat 8 n) (ph t) = 1#8)
  | _ => false
theorem invok0 : ((List.range 64).all fun n => n == 0 || invOk n) = true := by kernel_rfl
theorem invok1 : ((List.range 64).all fun n => invOk (64 + n)) = true := by kernel_rfl
theorem invok2 : ((List.range 64).all fun n => invOk (128 + n)) = true := by kernel_rfl
theorem invok3 : ((List.range 64).all fun n => invOk (192 + n)) = true := by kernel_rfl
theorem invok (n : Nat) (h0 : n ≠ 0) (h : n < 256) : invOk n = true := by
  by_cases h1 : n < 64
  · have := List.all_eq_true.1 invok0 n (List.mem_range.2 h1)
    have hz : (n == 0) = false := by simpa using h0
    rw [hz, Bool.false_or] at this; exact this
  · by_cases h2 : n < 128
    · have := List.all_eq_true.1 invok1 (n - 64) (List.mem_range.2 (by omega))
      rw [show 64 + (n - 64) = n by omega] at this; exact this
    · by_cases h3 : n < 192
      · have := List.all_eq_true.1 invok2 (n - 128) (List.mem_range.2 (by omega))
        rw [show 128 + (n - 128) = n by omega] at this; exact this
      · have := List.all_eq_true.1 invok3 (n - 192) (List.mem_range.2 (by omega))
        rw [show 192 + (n - 192) = n by omega] at this; exact this
theorem inv_of {x : Int} (hx : byte x) (h0 : x ≠ 0) (K : Nat) (hK : 20 ≤ K) : ∃ t, gf_Inv.f K x = some (t, true) ∧ byte t ∧ mul (ph x) (ph t) = 1#8 := by
  obtain ⟨n, rfl⟩ : ∃ n : Nat, x = n := ⟨x.toNat, by have := hx.1; omega⟩
  have h := invok n (by omega) (by have := hx.2; omega)
  unfold invOk at h
  split at h
  · rename_i t he
    rw [Bool.and_eq_true, Bool.and_eq_true] at h
    refine ⟨t, at_rounds (g := fun K => gf_Inv.f K (n : Int)) (gf_Inv.mono _) hK he, ⟨of_decide_eq_true h.1.1, of_decide_eq_true h.1.2⟩, ?_⟩
    have := of_decide_eq_true h.2
    unfold ph at this ⊢
    rw [Int.toNat_natCast]; exact this
  · cases h
end Go.Proofs.YtndnedjclbigiaaDoor.Lin
