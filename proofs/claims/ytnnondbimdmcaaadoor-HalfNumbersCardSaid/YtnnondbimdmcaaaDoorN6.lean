/- The plain law of HalfNumbers: for every k, r and numbers: where k and r are legal, the kernel reckons carriers and what is carried; else all refuse. -/
import Derived.Test.YtnnondbimdmcaaaDoorN5
import Derived.Test.YtnnondbimdmcaaaDoorN2
namespace Go.Proofs.YtnnondbimdmcaaaDoor.Pure
open Go.RowKit Go.Proofs.YtnnondbimdmcaaaDoorW.PrintWords Go.Proofs.YtnnondbimdmcaaaDoorW.PrintLast Go.Proofs.YtnnondbimdmcaaaDoor.F Go.Proofs.YtnnondbimdmcaaaDoor.Plain
set_option linter.unusedVariables false
attribute [local instance] nameErrs

theorem numbers_alive : tesseralaw05_alive.f 700 = some true := by kernel_rfl
def crd (a b n : Nat) : List Int := ((half_Carried.f 100 a b n).map (·.1)).getD []
def crr (a b n : Nat) : Int := ((half_Carrier.f a b n).map (·.1)).getD 0
def carOk (a : Nat) : Bool := (List.range 17).all fun b => !(legalB a b) || ((List.range 16).all fun n =>
  (!(decide (n < a)) || (decide (half_Carrier.f (a : Int) (b : Int) (n : Int) = some (crr a b n, none)) && decide (tesseraref05_Carrier.f 100 (a : Int) (b : Int) (n : Int) = some (crr a b n)))) &&
  (!(decide (n < b)) || (decide (half_Carried.f 100 (a : Int) (b : Int) (n : Int) = some (crd a b n, none)) && decide (tesseralaw05_HalfNumbers.l0 100 (a : Int) (b : Int) (crd a b n) none [] 0 (n : Int) 0 = some true))))
theorem carOk_0 : carOk 0 = true := by kernel_rfl
theorem carOk_1 : carOk 1 = true := by kernel_rfl
theorem carOk_2 : carOk 2 = true := by kernel_rfl
theorem carOk_3 : carOk 3 = true := by kernel_rfl
theorem carOk_4 : carOk 4 = true := by kernel_rfl
theorem carOk_5 : carOk 5 = true := by kernel_rfl
theorem carOk_6 : carOk 6 = true := by kernel_rfl
theorem carOk_7 : carOk 7 = true := by kernel_rfl
theorem carOk_8 : carOk 8 = true := by kernel_rfl
theorem carOk_9 : carOk 9 = true := by kernel_rfl
theorem carOk_10 : carOk 10 = true := by kernel_rfl
theorem carOk_11 : carOk 11 = true := by kernel_rfl
theorem carOk_12 : carOk 12 = true := by kernel_rfl
theorem carOk_13 : carOk 13 = true := by kernel_rfl
theorem carOk_14 : carOk 14 = true := by kernel_rfl
theorem carOk_15 : carOk 15 = true := by kernel_rfl
theorem carOk_16 : carOk 16 = true := by kernel_rfl
theorem car_all (a : Nat) (h : a < 17) : carOk a = true := by
  rcases a with _ | _ | _ | _ | _ | _ | _ | _ | _ | _ | _ | _ | _ | _ | _ | _ | _ | a
  · exact carOk_0
  · exact carOk_1
  · exact carOk_2
  · exact carOk_3
  · exact carOk_4
  · exact carOk_5
  · exact carOk_6
  · exact carOk_7
  · exact carOk_8
  · exact carOk_9
  · exact carOk_10
  · exact carOk_11
  · exact carOk_12
  · exact carOk_13
  · exact carOk_14
  · exact carOk_15
  · exact carOk_16
  · omega

/-- The part of the pair plays no part in the loop. -/
theorem l0_any : ∀ (k : Nat) (x0 x1 : Int) (l : List Int) (e : Option Int) (o : List Int) (i n z y : Int), tesseralaw05_HalfNumbers.l0 k x0 x1 l e o i n z = tesseralaw05_HalfNumbers.l0 k x0 x1 l e o i n y
  | 0, _, _, _, _, _, _, _, _, _ => by rw [tesseralaw05_HalfNumbers.l0, tesseralaw05_HalfNumbers.l0]
  | k + 1, x0, x1, l, e, o, i, n, z, y => by
    have ih := l0_any k
    rw [tesseralaw05_HalfNumbers.l0, tesseralaw05_HalfNumbers.l0]
    have h : ∀ t221 : Int, (if t221 = n then (if o.length < 17592186044416 then (tesseralaw05_HalfNumbers.l0 k x0 x1 l e (o ++ [i]) (wrap64 (i + 1)) n z) else (none)) else (tesseralaw05_HalfNumbers.l0 k x0 x1 l e o (wrap64 (i + 1)) n z)) = (if t221 = n then (if o.length < 17592186044416 then (tesseralaw05_HalfNumbers.l0 k x0 x1 l e (o ++ [i]) (wrap64 (i + 1)) n y) else (none)) else (tesseralaw05_HalfNumbers.l0 k x0 x1 l e o (wrap64 (i + 1)) n y)) := by
      intro t; rw [ih x0 x1 l e (o ++ [i]) (wrap64 (i + 1)) n z y, ih x0 x1 l e o (wrap64 (i + 1)) n z y]
    simp only [h]

structure Nums (a b : Nat) : Prop where
  la : 1 ≤ a
  lb : 2 ≤ b
  lab : a + b ≤ 16
  car : ∀ n, n < a → ∃ c, half_Carrier.f (a : Int) (b : Int) (n : Int) = some (c, none) ∧ ∀ K, 100 ≤ K → tesseraref05_Carrier.f K (a : Int) (b : Int) (n : Int) = some c
  crd : ∀ n, n < b → ∃ l, (∀ K, 100 ≤ K → half_Carried.f K (a : Int) (b : Int) (n : Int) = some (l, none)) ∧ ∀ K, 100 ≤ K → ∀ z, tesseralaw05_HalfNumbers.l0 K (a : Int) (b : Int) l none [] 0 (n : Int) z = some true

theorem nums_of (a b : Nat) (h : legalB a b = true) : Nums a b := by
  have hl : (1 ≤ a ∧ 2 ≤ b) ∧ a + b ≤ 16 := by simpa [legalB] using h
  obtain ⟨⟨la, lb⟩, lab⟩ := hl
  have h1 := List.all_eq_true.1 (car_all a (by omega)) b (List.mem_range.2 (by omega))
  rw [h, Bool.not_true, Bool.false_or] at h1
  have h2 : ∀ n, n < 16 → _ := fun n hn => List.all_eq_true.1 h1 n (List.mem_range.2 hn)
  refine ⟨la, lb, lab, fun n hn => ?_, fun n hn => ?_⟩
  · have h3 := h2 n (by omega)
    rw [Bool.and_eq_true, decide_eq_true hn, Bool.not_true, Bool.false_or, Bool.and_eq_true] at h3
    exact ⟨crr a b n, of_decide_eq_true h3.1.1, fun K hK => at_rounds (g := fun K => tesseraref05_Carrier.f K (a : Int) (b : Int) (n : Int)) (tesseraref05_Carrier.mono _ _ _) hK (of_decide_eq_true h3.1.2)⟩
  · have h3 := h2 n (by omega)
    rw [Bool.and_eq_true, decide_eq_true hn, Bool.not_true, Bool.false_or, Bool.and_eq_true] at h3
    exact ⟨_, fun K hK => at_rounds (g := fun K => half_Carried.f K (a : Int) (b : Int) (n : Int)) (half_Carried.mono _ _ _) hK (of_decide_eq_true h3.2.1), fun K hK z => by
      rw [l0_any _ _ _ _ _ _ _ _ z 0]
      exact at_rounds (g := fun K => tesseralaw05_HalfNumbers.l0 K (a : Int) (b : Int) _ none [] 0 (n : Int) 0) (fun k => (tesseralaw05_HalfNumbers.mono_l k).2.2.2.2.2.2.2.2 _ _ _ _ _ _ _ _) hK (of_decide_eq_true h3.2.2)⟩

theorem ok4 : errOk tesseralaw05_HalfNumbers.L (some 4) = true := by decide
theorem ok12 : errOk tesseralaw05_HalfNumbers.L (some 12) = true := by decide
theorem nil_ : isNil (none : Option Int) = true := rfl
theorem eq4 : errEq (some 4) 4 = true := by decide
theorem eq12 : errEq (some 12) 12 = true := by decide

theorem HalfNumbers : ∀ (a0 : Int) (a1 : Int) (a2_0 : Int) (a2_1 : Int), (Lit.int .i64 a0).wf = true → (Lit.int .i64 a1).wf = true → (Lit.int .i64 a2_0).wf = true → (Lit.int .i64 a2_1).wf = true → ∃ k, F.tesseralaw05_HalfNumbers.f k a0 a1 a2_0 a2_1 = some true := by
  intro a b n z ha hb hn hz
  refine ⟨700, ?_⟩
  unfold tesseralaw05_HalfNumbers.f
  rw [numbers_alive, Option.bind_some, if_pos rfl]
  rcases legal_cases a b with ⟨A, B, rfl, rfl, hl, hL, hC⟩ | ⟨hL, hC⟩
  · have R := nums_of A B hl
    have la := R.la
    have lb := R.lb
    have lab := R.lab
    have hw0 : wrap64 ((A : Int) + (B : Int)) = ((A + B : Nat) : Int) := by unfold wrap64; omega
    have hw : wrap64 (2 * wrap64 ((A : Int) + (B : Int))) = ((2 * (A + B) : Nat) : Int) := by unfold wrap64; omega
    have hG : ∃ g, base_Group.f (A : Int) (B : Int) = some (g, none) := by
      obtain ⟨c, hc, _⟩ := R.car 0 (by omega)
      unfold half_Carrier.f at hc
      obtain ⟨⟨g, e⟩, hg, h⟩ := Option.bind_eq_some_iff.mp hc
      refine ⟨g, ?_⟩
      cases e with
      | none => exact hg
      | some q => rw [if_neg (show ¬ (some q).isNone = true by simp)] at h; simp at h
    obtain ⟨g, hG⟩ := hG
    -- the four answers
    have hOf : ∃ o e, half_Of.f (A : Int) (B : Int) n z = some (o, e) ∧ ((n < 0 ∨ n ≥ ((A + B : Nat) : Int) ∨ z < 0 ∨ z > 1) ∧ o = 0 ∧ e = some 4 ∨ ¬ (n < 0 ∨ n ≥ ((A + B : Nat) : Int) ∨ z < 0 ∨ z > 1) ∧ o = wrap64 (wrap64 (2 * n) + z) ∧ e = none) := by
      unfold half_Of.f half_place_number.f
      rw [hC, Option.bind_some, if_pos (show (none : Option Int).isNone = true by rfl), hw0]
      by_cases c0 : n < 0
      · rw [if_pos c0]; exact ⟨_, _, rfl, .inl ⟨.inl c0, rfl, rfl⟩⟩
      · by_cases c1 : n ≥ ((A + B : Nat) : Int)
        · rw [if_neg c0, if_pos c1]; exact ⟨_, _, rfl, .inl ⟨.inr (.inl c1), rfl, rfl⟩⟩
        · by_cases c2 : z < 0
          · rw [if_neg c0, if_neg c1, if_pos c2]; exact ⟨_, _, rfl, .inl ⟨.inr (.inr (.inl c2)), rfl, rfl⟩⟩
          · by_cases c3 : z > 1
            · rw [if_neg c0, if_neg c1, if_neg c2, if_pos c3]; exact ⟨_, _, rfl, .inl ⟨.inr (.inr (.inr c3)), rfl, rfl⟩⟩
            · rw [if_neg c0, if_neg c1, if_neg c2, if_neg c3]; exact ⟨_, _, rfl, .inr ⟨by omega, rfl, rfl⟩⟩
    have hSplit : ∃ s p e, half_Split.f (A : Int) (B : Int) n = some (s, p, e) ∧ ((n < 0 ∨ n ≥ ((2 * (A + B) : Nat) : Int)) ∧ s = 0 ∧ p = 0 ∧ e = some 4 ∨ ¬ (n < 0 ∨ n ≥ ((2 * (A + B) : Nat) : Int)) ∧ s = wrap64 (Int.tdiv n 2) ∧ p = Int.tmod n 2 ∧ e = none) := by
      unfold half_Split.f half_check.f half_at.f
      rw [hC, Option.bind_some, if_pos (show (none : Option Int).isNone = true by rfl), hw]
      by_cases c0 : n < 0
      · rw [if_pos c0]; exact ⟨_, _, _, rfl, .inl ⟨.inl c0, rfl, rfl, rfl⟩⟩
      · by_cases c1 : n ≥ ((2 * (A + B) : Nat) : Int)
        · rw [if_neg c0, if_pos c1]; exact ⟨_, _, _, rfl, .inl ⟨.inr c1, rfl, rfl, rfl⟩⟩
        · rw [if_neg c0, if_neg c1]; exact ⟨_, _, _, rfl, .inr ⟨by omega, rfl, rfl, rfl⟩⟩
    have hCar : ∃ c e, half_Carrier.f (A : Int) (B : Int) n = some (c, e) ∧ ((n < 0 ∨ n ≥ (A : Int)) ∧ c = 0 ∧ e = some 12 ∨ ¬ (n < 0 ∨ n ≥ (A : Int)) ∧ e = none ∧ ∀ K, 100 ≤ K → tesseraref05_Carrier.f K (A : Int) (B : Int) n = some c) := by
      by_cases c0 : n < 0 ∨ n ≥ (A : Int)
      · refine ⟨0, some 12, ?_, .inl ⟨c0, rfl, rfl⟩⟩
        unfold half_Carrier.f
        rw [hG, Option.bind_some, if_pos (show (none : Option Int).isNone = true by rfl)]
        by_cases c1 : n < 0
        · rw [if_pos c1]
        · rw [if_neg c1, if_pos (by omega)]
      · obtain ⟨N, rfl⟩ : ∃ N : Nat, n = N := ⟨n.toNat, by omega⟩
        obtain ⟨c, h1, h2⟩ := R.car N (by omega)
        exact ⟨c, none, h1, .inr ⟨c0, rfl, h2⟩⟩
    have hCrd : ∃ l e, half_Carried.f 700 (A : Int) (B : Int) n = some (l, e) ∧ ((n < 0 ∨ n ≥ (B : Int)) ∧ l = [] ∧ e = some 12 ∨ ¬ (n < 0 ∨ n ≥ (B : Int)) ∧ e = none ∧ ∀ K, 100 ≤ K → tesseralaw05_HalfNumbers.l0 K (A : Int) (B : Int) l none [] 0 n z = some true) := by
      by_cases c0 : n < 0 ∨ n ≥ (B : Int)
      · refine ⟨[], some 12, ?_, .inl ⟨c0, rfl, rfl⟩⟩
        unfold half_Carried.f
        rw [hG, Option.bind_some, if_pos (show (none : Option Int).isNone = true by rfl)]
        by_cases c1 : n < 0
        · rw [if_pos c1, half_Carried.j0, if_pos rfl]
        · rw [if_neg c1, half_Carried.j0, decide_eq_true (by omega), if_pos rfl]
      · obtain ⟨N, rfl⟩ : ∃ N : Nat, n = N := ⟨n.toNat, by omega⟩
        obtain ⟨l, h1, h2⟩ := R.crd N (by omega)
        exact ⟨l, none, h1 700 (by omega), .inr ⟨c0, rfl, fun K hK => h2 K hK z⟩⟩
    obtain ⟨o, e1, h1, r1⟩ := hOf
    obtain ⟨s, p, e2, h2, r2⟩ := hSplit
    obtain ⟨c, e3, h3, r3⟩ := hCar
    obtain ⟨l, e4, h4, r4⟩ := hCrd
    rw [h1, h2, h3, h4, hL]
    simp only [Option.bind_some, if_true]
    have j7 : ∀ K, 102 ≤ K → tesseralaw05_HalfNumbers.j6 K (A : Int) (B : Int) l e4 n z = some true := by
      intro K hK
      obtain ⟨K, rfl⟩ : ∃ m, K = m + 2 := ⟨K - 2, by omega⟩
      rcases r4 with ⟨q, rfl, rfl⟩ | ⟨q, rfl, hk⟩
      · have h7 : tesseralaw05_HalfNumbers.j7 (K + 1) (A : Int) (B : Int) [] (some 12) true n z = some true := by
          rw [tesseralaw05_HalfNumbers.j7, if_pos rfl, if_pos ok12, if_pos eq12]; rfl
        rw [tesseralaw05_HalfNumbers.j6]
        by_cases c0 : n < 0
        · rw [if_pos c0]; exact h7
        · rw [if_neg c0, decide_eq_true (by omega)]; exact h7
      · have h7 : tesseralaw05_HalfNumbers.j7 (K + 1) (A : Int) (B : Int) l none false n z = some true := by
          rw [tesseralaw05_HalfNumbers.j7, if_neg (by decide)]; exact hk K (by omega)
        rw [tesseralaw05_HalfNumbers.j6, if_neg (by omega), decide_eq_false (by omega)]; exact h7
    have j5 : ∀ K, 104 ≤ K → tesseralaw05_HalfNumbers.j4 K (A : Int) (B : Int) c e3 l e4 n z = some true := by
      intro K hK
      obtain ⟨K, rfl⟩ : ∃ m, K = m + 2 := ⟨K - 2, by omega⟩
      rcases r3 with ⟨q, rfl, rfl⟩ | ⟨q, rfl, hk⟩
      · have h7 : tesseralaw05_HalfNumbers.j5 (K + 1) (A : Int) (B : Int) 0 (some 12) l e4 true n z = some true := by
          rw [tesseralaw05_HalfNumbers.j5, if_pos rfl, if_pos ok12, if_pos eq12, if_pos rfl]; exact j7 K (by omega)
        rw [tesseralaw05_HalfNumbers.j4]
        by_cases c0 : n < 0
        · rw [if_pos c0]; exact h7
        · rw [if_neg c0, decide_eq_true (by omega)]; exact h7
      · have h7 : tesseralaw05_HalfNumbers.j5 (K + 1) (A : Int) (B : Int) c none l e4 false n z = some true := by
          rw [tesseralaw05_HalfNumbers.j5, if_neg (by decide), if_pos nil_, hk K (by omega), Option.bind_some, if_pos rfl]; exact j7 K (by omega)
        rw [tesseralaw05_HalfNumbers.j4, if_neg (by omega), decide_eq_false (by omega)]; exact h7
    have j3 : ∀ K, 106 ≤ K → tesseralaw05_HalfNumbers.j2 K (A : Int) (B : Int) s p e2 c e3 l e4 n z = some true := by
      intro K hK
      obtain ⟨K, rfl⟩ : ∃ m, K = m + 2 := ⟨K - 2, by omega⟩
      rcases r2 with ⟨q, rfl, rfl, rfl⟩ | ⟨q, rfl, rfl, rfl⟩
      · have h7 : tesseralaw05_HalfNumbers.j3 (K + 1) (A : Int) (B : Int) 0 0 (some 4) c e3 l e4 true n z = some true := by
          rw [tesseralaw05_HalfNumbers.j3, if_pos rfl, if_pos ok4, if_pos eq4, if_pos rfl, if_pos rfl]; exact j5 K (by omega)
        rw [tesseralaw05_HalfNumbers.j2, hw]
        by_cases c0 : n < 0
        · rw [if_pos c0]; exact h7
        · rw [if_neg c0, decide_eq_true (by omega)]; exact h7
      · have h7 : tesseralaw05_HalfNumbers.j3 (K + 1) (A : Int) (B : Int) (wrap64 (Int.tdiv n 2)) (Int.tmod n 2) none c e3 l e4 false n z = some true := by
          rw [tesseralaw05_HalfNumbers.j3, if_neg (by decide), if_pos nil_, if_pos rfl, if_pos rfl]; exact j5 K (by omega)
        rw [tesseralaw05_HalfNumbers.j2, hw, if_neg (by omega), decide_eq_false (by omega)]; exact h7
    have j1 : ∀ K, 108 ≤ K → tesseralaw05_HalfNumbers.j0 K (A : Int) (B : Int) o e1 s p e2 c e3 l e4 n z = some true := by
      intro K hK
      obtain ⟨K, rfl⟩ : ∃ m, K = m + 2 := ⟨K - 2, by omega⟩
      rcases r1 with ⟨q, rfl, rfl⟩ | ⟨q, rfl, rfl⟩
      · have h7 : tesseralaw05_HalfNumbers.j1 (K + 1) (A : Int) (B : Int) 0 (some 4) s p e2 c e3 l e4 true n z = some true := by
          rw [tesseralaw05_HalfNumbers.j1, if_pos rfl, if_pos ok4, if_pos eq4, if_pos rfl]; exact j3 K (by omega)
        rw [tesseralaw05_HalfNumbers.j0, hw0]
        by_cases c0 : n < 0
        · rw [if_pos c0]; exact h7
        · by_cases c1 : n ≥ ((A + B : Nat) : Int)
          · rw [if_neg c0, if_pos c1]; exact h7
          · by_cases c2 : z < 0
            · rw [if_neg c0, if_neg c1, if_pos c2]; exact h7
            · rw [if_neg c0, if_neg c1, if_neg c2, decide_eq_true (by omega)]; exact h7
      · have h7 : tesseralaw05_HalfNumbers.j1 (K + 1) (A : Int) (B : Int) (wrap64 (wrap64 (2 * n) + z)) none s p e2 c e3 l e4 false n z = some true := by
          rw [tesseralaw05_HalfNumbers.j1, if_neg (by decide), if_pos nil_, if_pos rfl]; exact j3 K (by omega)
        rw [tesseralaw05_HalfNumbers.j0, hw0, if_neg (by omega), if_neg (by omega), if_neg (by omega), decide_eq_false (by omega)]; exact h7
    exact j1 700 (by omega)
  · have h1 : half_Of.f a b n z = some (0, some 1) := by unfold half_Of.f; rw [hC]; rfl
    have h2 : half_Split.f a b n = some (0, 0, some 1) := by unfold half_Split.f half_check.f; rw [hC]; rfl
    have h3 : half_Carrier.f a b n = some (0, some 1) := by unfold half_Carrier.f base_Group.f; rw [hC]; rfl
    have h4 : half_Carried.f 700 a b n = some ([], some 1) := by unfold half_Carried.f base_Group.f; rw [hC]; rfl
    rw [h1, h2, h3, h4, hL]
    rfl

end Go.Proofs.YtnnondbimdmcaaaDoor.Pure
