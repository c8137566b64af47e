-- Written by eprint.py, a program of this session, over the kit's printer. Lean checks it.
import Derived.Test.YtnnondbimdmcaaaDoorF0
import Derived.Test.YtnnondbimdmcaaaDoorF33
import Derived.Test.YtnnondbimdmcaaaDoorF34
import Derived.Test.YtnnondbimdmcaaaDoorG1
namespace Go.Proofs.YtnnondbimdmcaaaDoor.F
open Go.RowKit Go.Proofs.YtnnondbimdmcaaaDoorW.PrintWords Go.Proofs.YtnnondbimdmcaaaDoorW.PrintLast Go.Proofs.YtnnondbimdmcaaaDoorW.PrintMore
attribute [local go_sem] max2_int min2_int max_two min_two max_three min_three max_four min_four   -- for this text's walks alone
set_option linter.unusedVariables false
set_option linter.unusedSimpArgs false
set_option linter.unusedSectionVars false
open Go.Proofs.YtnnondbimdmcaaaDoor
variable [Errs]

/-! ### half_Name: function 15 -/
def half_Name.L : List Int := [1, 4]
def half_Name.f (a0 : Int) (a1 : Int) (a2 : Int) : Option (ByteArray × Option Int) := (half_check.f a0 a1 a2).bind fun t104 => (if t104.isNone = true then ((half_at.f a2).bind fun bt106 => (if 0 ≤ bt106.2 then (if bt106.2 < 2 then (if bt106.1 < a0 then ((strconv_Itoa.f bt106.1).bind fun t109 => (if 1 + t109.size ≤ 9223372036854775807 then (if 1 + t109.size + ((Utf8.encode (bt (⟨#[97, 98]⟩ : ByteArray) bt106.2)).size) ≤ 9223372036854775807 then (some (((⟨#[100]⟩ : ByteArray) ++ t109) ++ (Utf8.encode (bt (⟨#[97, 98]⟩ : ByteArray) bt106.2)), none)) else (none)) else (none))) else ((strconv_Itoa.f (wrap64 (bt106.1 - a0))).bind fun t110 => (if 1 + t110.size ≤ 9223372036854775807 then (if 1 + t110.size + ((Utf8.encode (bt (⟨#[97, 98]⟩ : ByteArray) bt106.2)).size) ≤ 9223372036854775807 then (some (((⟨#[112]⟩ : ByteArray) ++ t110) ++ (Utf8.encode (bt (⟨#[97, 98]⟩ : ByteArray) bt106.2)), none)) else (none)) else (none)))) else (none)) else (none))) else (some ((⟨#[]⟩ : ByteArray), some (t104.getD 0))))
set_option maxHeartbeats 8000000 in
set_option maxRecDepth 100000 in
theorem half_Name.calls (a0 : Int) (a1 : Int) (a2 : Int) (r1 : ByteArray) (r2 : Option Int) (w : World) (h : half_Name.f a0 a1 a2 = some (r1, r2)) (hS : Sent half_Name.L w) :
    Calls Tryd.prog 15 #[.int .i64 a0, .int .i64 a1, .int .i64 a2] w fun e w' => e = .returned (.tuple #[.string r1, errW r2]) ∧ Below w.heap.size w w' := by
  have hu68 := Tryd.underlying68
  have hu27 := Tryd.underlying27
  have HB := Aside0.mk (Below.refl w.heap.size w)
  have HS := Aside0.mk hS
  clear hS
  have H : ((half_check.f a0 a1 a2).bind fun t104 => (if t104.isNone = true then ((half_at.f a2).bind fun bt106 => (if 0 ≤ bt106.2 then (if bt106.2 < 2 then (if bt106.1 < a0 then ((strconv_Itoa.f bt106.1).bind fun t109 => (if 1 + t109.size ≤ 9223372036854775807 then (if 1 + t109.size + ((Utf8.encode (bt (⟨#[97, 98]⟩ : ByteArray) bt106.2)).size) ≤ 9223372036854775807 then (some (((⟨#[100]⟩ : ByteArray) ++ t109) ++ (Utf8.encode (bt (⟨#[97, 98]⟩ : ByteArray) bt106.2)), none)) else (none)) else (none))) else ((strconv_Itoa.f (wrap64 (bt106.1 - a0))).bind fun t110 => (if 1 + t110.size ≤ 9223372036854775807 then (if 1 + t110.size + ((Utf8.encode (bt (⟨#[97, 98]⟩ : ByteArray) bt106.2)).size) ≤ 9223372036854775807 then (some (((⟨#[112]⟩ : ByteArray) ++ t110) ++ (Utf8.encode (bt (⟨#[97, 98]⟩ : ByteArray) bt106.2)), none)) else (none)) else (none)))) else (none)) else (none))) else (some ((⟨#[]⟩ : ByteArray), some (t104.getD 0))))) = some (r1, r2) := h
  clear h
  replace H := Option.bind_eq_some_iff.mp H
  obtain ⟨t104, A40, H⟩ := H
  replace H : (if t104.isNone = true then ((half_at.f a2).bind fun bt106 => (if 0 ≤ bt106.2 then (if bt106.2 < 2 then (if bt106.1 < a0 then ((strconv_Itoa.f bt106.1).bind fun t109 => (if 1 + t109.size ≤ 9223372036854775807 then (if 1 + t109.size + ((Utf8.encode (bt (⟨#[97, 98]⟩ : ByteArray) bt106.2)).size) ≤ 9223372036854775807 then (some (((⟨#[100]⟩ : ByteArray) ++ t109) ++ (Utf8.encode (bt (⟨#[97, 98]⟩ : ByteArray) bt106.2)), none)) else (none)) else (none))) else ((strconv_Itoa.f (wrap64 (bt106.1 - a0))).bind fun t110 => (if 1 + t110.size ≤ 9223372036854775807 then (if 1 + t110.size + ((Utf8.encode (bt (⟨#[97, 98]⟩ : ByteArray) bt106.2)).size) ≤ 9223372036854775807 then (some (((⟨#[112]⟩ : ByteArray) ++ t110) ++ (Utf8.encode (bt (⟨#[97, 98]⟩ : ByteArray) bt106.2)), none)) else (none)) else (none)))) else (none)) else (none))) else (some ((⟨#[]⟩ : ByteArray), some (t104.getD 0)))) = some (r1, r2) := H
  have A4 := Aside0.mk A40
  clear A40
  rcases t104 with _ | q105
  · have H1 : ((half_at.f a2).bind fun bt106 => (if 0 ≤ bt106.2 then (if bt106.2 < 2 then (if bt106.1 < a0 then ((strconv_Itoa.f bt106.1).bind fun t109 => (if 1 + t109.size ≤ 9223372036854775807 then (if 1 + t109.size + ((Utf8.encode (bt (⟨#[97, 98]⟩ : ByteArray) bt106.2)).size) ≤ 9223372036854775807 then (some (((⟨#[100]⟩ : ByteArray) ++ t109) ++ (Utf8.encode (bt (⟨#[97, 98]⟩ : ByteArray) bt106.2)), none)) else (none)) else (none))) else ((strconv_Itoa.f (wrap64 (bt106.1 - a0))).bind fun t110 => (if 1 + t110.size ≤ 9223372036854775807 then (if 1 + t110.size + ((Utf8.encode (bt (⟨#[97, 98]⟩ : ByteArray) bt106.2)).size) ≤ 9223372036854775807 then (some (((⟨#[112]⟩ : ByteArray) ++ t110) ++ (Utf8.encode (bt (⟨#[97, 98]⟩ : ByteArray) bt106.2)), none)) else (none)) else (none)))) else (none)) else (none))) = some (r1, r2) := by rw [if_pos (show (none : Option Int).isNone = true by rfl)] at H; exact H
    clear H
    have H := H1
    clear H1
    try simp only [errW_none, errW_some]
    replace H := Option.bind_eq_some_iff.mp H
    obtain ⟨⟨t106, t107⟩, A50, H⟩ := H
    replace H : (if 0 ≤ t107 then (if t107 < 2 then (if t106 < a0 then ((strconv_Itoa.f t106).bind fun t109 => (if 1 + t109.size ≤ 9223372036854775807 then (if 1 + t109.size + ((Utf8.encode (bt (⟨#[97, 98]⟩ : ByteArray) t107)).size) ≤ 9223372036854775807 then (some (((⟨#[100]⟩ : ByteArray) ++ t109) ++ (Utf8.encode (bt (⟨#[97, 98]⟩ : ByteArray) t107)), none)) else (none)) else (none))) else ((strconv_Itoa.f (wrap64 (t106 - a0))).bind fun t110 => (if 1 + t110.size ≤ 9223372036854775807 then (if 1 + t110.size + ((Utf8.encode (bt (⟨#[97, 98]⟩ : ByteArray) t107)).size) ≤ 9223372036854775807 then (some (((⟨#[112]⟩ : ByteArray) ++ t110) ++ (Utf8.encode (bt (⟨#[97, 98]⟩ : ByteArray) t107)), none)) else (none)) else (none)))) else (none)) else (none)) = some (r1, r2) := H
    have A5 := Aside0.mk A50
    clear A50
    by_cases c6 : 0 ≤ t107
    · rw [if_pos c6] at H
      have c6b0 : decide (0 ≤ t107) = true := decide_eq_true c6
      clear c6
      by_cases c7 : t107 < 2
      · rw [if_pos c7] at H
        have c7b0 : decide (t107 < 2) = true := decide_eq_true c7
        clear c7
        by_cases c9 : t106 < a0
        · rw [if_pos c9] at H
          have c9b0 : decide (t106 < a0) = true := decide_eq_true c9
          clear c9
          replace H := Option.bind_eq_some_iff.mp H
          obtain ⟨t109, A100, H⟩ := H
          replace H : (if 1 + t109.size ≤ 9223372036854775807 then (if 1 + t109.size + ((Utf8.encode (bt (⟨#[97, 98]⟩ : ByteArray) t107)).size) ≤ 9223372036854775807 then (some (((⟨#[100]⟩ : ByteArray) ++ t109) ++ (Utf8.encode (bt (⟨#[97, 98]⟩ : ByteArray) t107)), none)) else (none)) else (none)) = some (r1, r2) := H
          have A10 := Aside0.mk A100
          clear A100
          by_cases c11 : 1 + t109.size ≤ 9223372036854775807
          · rw [if_pos c11] at H
            have c11b0 := eq_true c11
            have c11b1 : decide (1 + t109.size ≤ 9223372036854775807) = true := decide_eq_true c11
            try have c11b2 : (9223372036854775807 < 1 + t109.size) = False := eq_false (Nat.not_lt.2 c11)
            by_cases c12 : 1 + t109.size + ((Utf8.encode (bt (⟨#[97, 98]⟩ : ByteArray) t107)).size) ≤ 9223372036854775807
            · rw [if_pos c12] at H
              have c12b0 := eq_true c12
              have c12b1 : decide (1 + t109.size + ((Utf8.encode (bt (⟨#[97, 98]⟩ : ByteArray) t107)).size) ≤ 9223372036854775807) = true := decide_eq_true c12
              try have c12b2 : (9223372036854775807 < 1 + t109.size + ((Utf8.encode (bt (⟨#[97, 98]⟩ : ByteArray) t107)).size)) = False := eq_false (Nat.not_lt.2 c12)
              simp only [Option.some.injEq, Prod.mk.injEq] at H
              obtain ⟨rfl, rfl⟩ := H
              go_enter Tryd.func15, Tryd.ntmps15
              go_wp2_with (first | ((with_reducible refine gate_callee (f := 33) rfl ?_); refine goesL_ (some 14) rfl rfl Tryd.func33 (by kernel_rfl) rfl #[.int .i64 a0, .int .i64 a1, .int .i64 a2] rfl (by (try simp only [List.map_toArray, List.map_cons, List.map_nil]); first | done | rfl | (simp only [List.length_drop, List.length_take]; rfl)) ?_; (with_reducible refine (half_check.calls a0 a1 a2 none _ A4.out (Sent.sub (show ∀ c, c ∈ half_check.L → c ∈ half_Name.L by decide) (Sent.below HS.out (by repeat (first | (with_reducible first | exact HB.out | apply below_alloc | apply pw_below_drewN | apply below_drew1) | exact HB.out))))).mono ?_); rintro e w' ⟨rfl, ⟨nd, rfl⟩⟩; refine ⟨_, rfl, ?_⟩; (try simp only [errW_none, errW_some])) | ((with_reducible refine gate_callee (f := 34) rfl ?_); refine goesL_ (some 19) rfl rfl Tryd.func34 (by kernel_rfl) rfl #[.int .i64 a2] rfl (by (try simp only [List.map_toArray, List.map_cons, List.map_nil]); first | done | rfl | (simp only [List.length_drop, List.length_take]; rfl)) ?_; (with_reducible refine (half_at.calls a2 t106 t107 _ A5.out).mono ?_); rintro e w13 ⟨rfl, hb⟩; refine ⟨_, rfl, ?_⟩; have n0_ := Aside0.mk (below_step (by repeat (first | (with_reducible first | exact HB.out | apply below_alloc | apply pw_below_drewN | apply below_drew1) | exact HB.out)) hb); clear HB; have HB := n0_; clear n0_; (try clear hb); (try clear hb2); (try clear hk); (try clear hi)) | ((with_reducible refine gate_dst (N := 9) rfl ?_); refine box_event ?hg (N := 9) ?hd (cs := #[.int .i64 0, .int .i64 0]) (t := 68) ?hr ?_; (case hd => rfl); (case hg => rfl); (case hr => first | (go_simp; done) | (go_simp; rfl)); intro gb108 hg w14 hbox hb; have n0_ := Aside0.mk (below_step (by repeat (first | (with_reducible first | exact HB.out | apply below_alloc | apply pw_below_drewN | apply below_drew1) | exact HB.out)) hb); have n1_ := Aside0.mk (hbox); have n2_ := Aside0.mk ((by rw [hg]; exact (below_size (by repeat (first | (with_reducible first | exact HB.out | apply below_alloc | apply pw_below_drewN | apply below_drew1) | exact HB.out))) : w.heap.size ≤ gb108)); have n3_ := Aside0.mk ((by rw [hg]; exact (below_size (by repeat (first | (with_reducible first | exact HB.out | apply below_alloc | apply pw_below_drewN | apply below_drew1) | exact HB.out))) : w.heap.size ≤ gb108)); clear HB; have HB := n0_; have BK108 := n1_; have GW108 := n2_; have GE108 := n3_; clear n0_ n1_ n2_ n3_; clear hb hbox hg; have hcz15_0 : w14.cell? ⟨gb108, 0, none⟩ = some (.int .i64 0) := (blk_cell BK108.out 0).trans rfl; have hcz15_1 : w14.cell? ⟨gb108, 1, none⟩ = some (.int .i64 0) := (blk_cell BK108.out 1).trans rfl; have hfz15_0 := blk_frozen BK108.out 0; have hfz15_1 := blk_frozen BK108.out 1; have p8 : 0 ≤ (t107 : Int) := of_decide_eq_true (by first | (with_reducible assumption) | assumption); have q8 : t107 < (2 : Int) := of_decide_eq_true (by first | (with_reducible assumption) | assumption); have hx8 := bt_at (⟨#[97, 98]⟩ : ByteArray) t107; replace p8 := eq_true p8; replace q8 := eq_true q8) | ((with_reducible refine gate_callee (f := 35) rfl ?_); refine goesL_ (some 30) rfl rfl Tryd.func35 (by kernel_rfl) rfl #[.int .i64 t106] rfl (by (try simp only [List.map_toArray, List.map_cons, List.map_nil]); first | done | rfl | (simp only [List.length_drop, List.length_take]; rfl)) ?_; (with_reducible refine (strconv_Itoa.calls t106 t109 _ A10.out).mono ?_); rintro e w' ⟨rfl, ⟨nd, rfl⟩⟩; refine ⟨_, rfl, ?_⟩))
              go_ret2
              exact ⟨by first | rfl | (simp [errW_none, errW_some] <;> rfl) | (simp [*, errW_none, errW_some] <;> rfl), by repeat (first | (with_reducible first | exact HB.out | apply below_alloc | apply pw_below_drewN | apply below_drew1 | refine below_set ?_ GE108.out) | exact HB.out)⟩
            · rw [if_neg c12] at H
              exact absurd H (by simp)
          · rw [if_neg c11] at H
            exact absurd H (by simp)
        · rw [if_neg c9] at H
          have c9b0 : decide (t106 < a0) = false := decide_eq_false c9
          clear c9
          replace H := Option.bind_eq_some_iff.mp H
          obtain ⟨t110, A160, H⟩ := H
          replace H : (if 1 + t110.size ≤ 9223372036854775807 then (if 1 + t110.size + ((Utf8.encode (bt (⟨#[97, 98]⟩ : ByteArray) t107)).size) ≤ 9223372036854775807 then (some (((⟨#[112]⟩ : ByteArray) ++ t110) ++ (Utf8.encode (bt (⟨#[97, 98]⟩ : ByteArray) t107)), none)) else (none)) else (none)) = some (r1, r2) := H
          have A16 := Aside0.mk A160
          clear A160
          by_cases c17 : 1 + t110.size ≤ 9223372036854775807
          · rw [if_pos c17] at H
            have c17b0 := eq_true c17
            have c17b1 : decide (1 + t110.size ≤ 9223372036854775807) = true := decide_eq_true c17
            try have c17b2 : (9223372036854775807 < 1 + t110.size) = False := eq_false (Nat.not_lt.2 c17)
            by_cases c18 : 1 + t110.size + ((Utf8.encode (bt (⟨#[97, 98]⟩ : ByteArray) t107)).size) ≤ 9223372036854775807
            · rw [if_pos c18] at H
              have c18b0 := eq_true c18
              have c18b1 : decide (1 + t110.size + ((Utf8.encode (bt (⟨#[97, 98]⟩ : ByteArray) t107)).size) ≤ 9223372036854775807) = true := decide_eq_true c18
              try have c18b2 : (9223372036854775807 < 1 + t110.size + ((Utf8.encode (bt (⟨#[97, 98]⟩ : ByteArray) t107)).size)) = False := eq_false (Nat.not_lt.2 c18)
              simp only [Option.some.injEq, Prod.mk.injEq] at H
              obtain ⟨rfl, rfl⟩ := H
              go_enter Tryd.func15, Tryd.ntmps15
              go_wp2_with (first | ((with_reducible refine gate_callee (f := 33) rfl ?_); refine goesL_ (some 14) rfl rfl Tryd.func33 (by kernel_rfl) rfl #[.int .i64 a0, .int .i64 a1, .int .i64 a2] rfl (by (try simp only [List.map_toArray, List.map_cons, List.map_nil]); first | done | rfl | (simp only [List.length_drop, List.length_take]; rfl)) ?_; (with_reducible refine (half_check.calls a0 a1 a2 none _ A4.out (Sent.sub (show ∀ c, c ∈ half_check.L → c ∈ half_Name.L by decide) (Sent.below HS.out (by repeat (first | (with_reducible first | exact HB.out | apply below_alloc | apply pw_below_drewN | apply below_drew1) | exact HB.out))))).mono ?_); rintro e w' ⟨rfl, ⟨nd, rfl⟩⟩; refine ⟨_, rfl, ?_⟩; (try simp only [errW_none, errW_some])) | ((with_reducible refine gate_callee (f := 34) rfl ?_); refine goesL_ (some 19) rfl rfl Tryd.func34 (by kernel_rfl) rfl #[.int .i64 a2] rfl (by (try simp only [List.map_toArray, List.map_cons, List.map_nil]); first | done | rfl | (simp only [List.length_drop, List.length_take]; rfl)) ?_; (with_reducible refine (half_at.calls a2 t106 t107 _ A5.out).mono ?_); rintro e w19 ⟨rfl, hb⟩; refine ⟨_, rfl, ?_⟩; have n0_ := Aside0.mk (below_step (by repeat (first | (with_reducible first | exact HB.out | apply below_alloc | apply pw_below_drewN | apply below_drew1) | exact HB.out)) hb); clear HB; have HB := n0_; clear n0_; (try clear hb); (try clear hb2); (try clear hk); (try clear hi)) | ((with_reducible refine gate_dst (N := 9) rfl ?_); refine box_event ?hg (N := 9) ?hd (cs := #[.int .i64 0, .int .i64 0]) (t := 68) ?hr ?_; (case hd => rfl); (case hg => rfl); (case hr => first | (go_simp; done) | (go_simp; rfl)); intro gb108 hg w20 hbox hb; have n0_ := Aside0.mk (below_step (by repeat (first | (with_reducible first | exact HB.out | apply below_alloc | apply pw_below_drewN | apply below_drew1) | exact HB.out)) hb); have n1_ := Aside0.mk (hbox); have n2_ := Aside0.mk ((by rw [hg]; exact (below_size (by repeat (first | (with_reducible first | exact HB.out | apply below_alloc | apply pw_below_drewN | apply below_drew1) | exact HB.out))) : w.heap.size ≤ gb108)); have n3_ := Aside0.mk ((by rw [hg]; exact (below_size (by repeat (first | (with_reducible first | exact HB.out | apply below_alloc | apply pw_below_drewN | apply below_drew1) | exact HB.out))) : w.heap.size ≤ gb108)); clear HB; have HB := n0_; have BK108 := n1_; have GW108 := n2_; have GE108 := n3_; clear n0_ n1_ n2_ n3_; clear hb hbox hg; have hcz21_0 : w20.cell? ⟨gb108, 0, none⟩ = some (.int .i64 0) := (blk_cell BK108.out 0).trans rfl; have hcz21_1 : w20.cell? ⟨gb108, 1, none⟩ = some (.int .i64 0) := (blk_cell BK108.out 1).trans rfl; have hfz21_0 := blk_frozen BK108.out 0; have hfz21_1 := blk_frozen BK108.out 1; have p8 : 0 ≤ (t107 : Int) := of_decide_eq_true (by first | (with_reducible assumption) | assumption); have q8 : t107 < (2 : Int) := of_decide_eq_true (by first | (with_reducible assumption) | assumption); have hx8 := bt_at (⟨#[97, 98]⟩ : ByteArray) t107; replace p8 := eq_true p8; replace q8 := eq_true q8) | ((with_reducible refine gate_callee (f := 35) rfl ?_); refine goesL_ (some 38) rfl rfl Tryd.func35 (by kernel_rfl) rfl #[.int .i64 (wrap64 (t106 - a0))] rfl (by (try simp only [List.map_toArray, List.map_cons, List.map_nil]); first | done | rfl | (simp only [List.length_drop, List.length_take]; rfl)) ?_; (with_reducible refine (strconv_Itoa.calls (wrap64 (t106 - a0)) t110 _ A16.out).mono ?_); rintro e w' ⟨rfl, ⟨nd, rfl⟩⟩; refine ⟨_, rfl, ?_⟩))
              go_ret2
              exact ⟨by first | rfl | (simp [errW_none, errW_some] <;> rfl) | (simp [*, errW_none, errW_some] <;> rfl), by repeat (first | (with_reducible first | exact HB.out | apply below_alloc | apply pw_below_drewN | apply below_drew1 | refine below_set ?_ GE108.out) | exact HB.out)⟩
            · rw [if_neg c18] at H
              exact absurd H (by simp)
          · rw [if_neg c17] at H
            exact absurd H (by simp)
      · rw [if_neg c7] at H
        exact absurd H (by simp)
    · rw [if_neg c6] at H
      exact absurd H (by simp)
  · have H1 : (some ((⟨#[]⟩ : ByteArray), some q105)) = some (r1, r2) := by rw [if_neg (show ¬ (some q105).isNone = true by simp)] at H; exact H
    clear H
    have H := H1
    clear H1
    try simp only [errW_none, errW_some]
    simp only [Option.some.injEq, Prod.mk.injEq] at H
    obtain ⟨rfl, rfl⟩ := H
    go_enter Tryd.func15, Tryd.ntmps15
    go_wp2_with (first | ((with_reducible refine gate_callee (f := 33) rfl ?_); refine goesL_ (some 14) rfl rfl Tryd.func33 (by kernel_rfl) rfl #[.int .i64 a0, .int .i64 a1, .int .i64 a2] rfl (by (try simp only [List.map_toArray, List.map_cons, List.map_nil]); first | done | rfl | (simp only [List.length_drop, List.length_take]; rfl)) ?_; (with_reducible refine (half_check.calls a0 a1 a2 (some q105) _ A4.out (Sent.sub (show ∀ c, c ∈ half_check.L → c ∈ half_Name.L by decide) (Sent.below HS.out (by repeat (first | (with_reducible first | exact HB.out | apply below_alloc | apply pw_below_drewN | apply below_drew1) | exact HB.out))))).mono ?_); rintro e w' ⟨rfl, ⟨nd, rfl⟩⟩; refine ⟨_, rfl, ?_⟩; (try simp only [errW_none, errW_some])))
    go_ret2
    exact ⟨by first | rfl | (simp [errW_none, errW_some] <;> rfl) | (simp [*, errW_none, errW_some] <;> rfl), by repeat (first | (with_reducible first | exact HB.out | apply below_alloc | apply pw_below_drewN | apply below_drew1) | exact HB.out)⟩

end Go.Proofs.YtnnondbimdmcaaaDoor.F
