/- The row and the tied card of tessera/tesseralaw05.HalfNumbers: for every input the law returns true and the input reads as it did; the package-level variables that it lists start as the program's text lays them. -/
import Derived.Test.YtnnondbimdmcaaaDoorRows
import Derived.Test.YtnnondbimdmcaaaDoorCards
import Derived.Test.YtnnondbimdmcaaaDoorTie
import Derived.Test.YtnnondbimdmcaaaDoorN5
import Derived.Test.YtnnondbimdmcaaaDoorN6
import Derived.WalkKit
import Derived.ProofKit
import Derived.OpenShut
import Derived.ShutString
import Derived.ChangeOld
import Derived.Below
import Derived.SizedLaws
import Derived.LaidLaws
import Derived.LaidMore
import Derived.LaidHandle
import Derived.LaidOnce
import Derived.Stop.LaidErr
import Derived.SevenTiedAt
import Derived.JoinedOf
import Derived.RowKit
import Derived.RowKitTokens
import Derived.ChangeVars
import Derived.ChangeSame
import Derived.Lib.SmallJoins
import Derived.Test.YtnnondbimdmcaaaDoorN2
namespace Go.Proofs.YtnnondbimdmcaaaDoor.halfNumbers
open Go.ChangeShapes Go.WideShapes Go.ChangeAt Go.RowKit
open Go.ChangeMaps (open_string shut_string)
set_option linter.unusedVariables false
set_option linter.unusedSimpArgs false
theorem own : ownKnob Tryd.prog.godebug = none := by kernel_rfl
set_option maxRecDepth 1000000 in
theorem door_met (os : Os) (args : Array Value) : laidMetH Tryd.prog Rows.halfNumbersRow.laid ((World.doorLaid Tryd.prog 100 os).forCall (fun _ _ => 0) ⟨#[], args, []⟩).memory :=
  laidMetH_of_parts3 (fuel := 8) (laidMet_of_run' 8 (by kernel_rfl) (by kernel_rfl)) (by kernel_rfl) (by kernel_rfl)
theorem laidOut : laidOutB Tryd.prog = true := by kernel_rfl
section
variable {H : Type} {enc : TypeId × Value → H} {P : Program} {w : World} {base : Nat} {spare : Nat → Bool} {held : Bool}
theorem open_arr2 {r : Reach} {b0 : Nat} {t e : TypeId} {v : Value} {d : DataW H} {p : List MemPlace} (hs : P.underlying t = some (.array 2 e)) (hce : P.cellsOf e = 1) (hC : P.cellsOf t = 2)
    (hv : Value.okWide P w r b0 t v) (h : DataW.Trod enc P w base spare held t v d p) :
    ∃ (v0 v1 : Value) (y0 y1 : DataW H × List MemPlace) (n : Nat), v = .agg #[v0, v1] ∧ d = .agg [y0.1, y1.1] ∧ p = y0.2 ++ y1.2 ∧
      DataW.trod enc P w base spare held n e [v0] = some y0 ∧ DataW.trod enc P w base spare held n e [v1] = some y1 := by
  obtain ⟨cs, rfl, hsz, _⟩ : ∃ cs, v = .agg cs ∧ cs.size = P.cellsOf t ∧ Row.okWide P w r b0 t cs := by simpa [Value.okWide, hs] using hv
  obtain ⟨c0, c1, rfl⟩ := Joins.array2 (hsz.trans hC)
  obtain ⟨fuel, hf⟩ := h
  obtain ⟨xs, m, _, hx, _, hl, hel⟩ := DataW.trod_array hs hf
  match xs, hl with
  | [y0, y1], _ =>
    have h0 := hel 0 (by omega)
    have h1 := hel 1 (by omega)
    simp only [Prod.mk.injEq] at hx
    refine ⟨c0, c1, y0, y1, m, rfl, by simpa using hx.1, by simpa using hx.2, by simpa [Value.cells, hce] using h0, by simpa [Value.cells, hce] using h1⟩
theorem shut_arr2 {t e : TypeId} {v0 v1 : Value} {y0 y1 : DataW H × List MemPlace} (hs : P.underlying t = some (.array 2 e)) (hce : P.cellsOf e = 1) (hC : P.cellsOf t = 2)
    (t0 : ∃ n, DataW.trod enc P w base spare held n e [v0] = some y0) (t1 : ∃ n, DataW.trod enc P w base spare held n e [v1] = some y1) :
    DataW.Trod enc P w base spare held t (.agg #[v0, v1]) (.agg [y0.1, y1.1]) (y0.2 ++ y1.2) := by
  obtain ⟨n0, t0⟩ := t0
  obtain ⟨n1, t1⟩ := t1
  have h0 := DataW.trod_le (Nat.le_max_left n0 n1) t0
  have h1 := DataW.trod_le (Nat.le_max_right n0 n1) t1
  refine ⟨max n0 n1 + 1, ?_⟩
  have r2 : List.range 2 = [0, 1] := rfl
  unfold DataW.trod
  rw [hs]
  simp [Value.cells, hce, hC, r2, h0, h1]
end
set_option maxRecDepth 1000000 in
set_option maxHeartbeats 1000000 in
theorem lifted (os : Os) (started : os.Started) (H : Type) (enc : TypeId × Value → H) :
    ReturnsInHanded {} Tryd.checked os 6 .any (fun w args => (Rows.halfNumbersSpec.pre enc Tryd.prog Tryd.f6 [] false w args ∧ laidMetH Tryd.prog Rows.halfNumbersRow.laid w) ∧ sizedMet enc Tryd.prog Tryd.f6 (OpenSpec.ofChange Rows.halfNumbersSpec) false w args)
      (Rows.halfNumbersSpec.post enc Tryd.prog Tryd.f6 false true false false) := by
  refine returnsInHanded_of_change_and (C := Tryd.checked) (X := fun w _ => laidMetH Tryd.prog Rows.halfNumbersRow.laid w) (fun _ _ _ hh h => h.of_heap hh) own started (by kernel_rfl) Tryd.func6
    (ChangeSpec.witness_shaped (enc := enc) (C := Tryd.checked) (os := os) (X := fun w _ => laidMetH Tryd.prog Rows.halfNumbersRow.laid w) false (World.doorLaid Tryd.prog 100 os) #[.int .i64 0, .int .i64 0, .agg #[.int .i64 0, .int .i64 0]] 8 rfl (World.shaped_of_RefB (by kernel_rfl) (by kernel_rfl)) (by kernel_rfl) (by kernel_rfl) (by kernel_rfl) (door_met os _)) ?_
  intro W base args ds gs before hval0 hW _ hsz0 hL _
  have hsz : (DataW.weightsEach Tryd.prog (Tryd.f6.params.toList ++ Rows.halfNumbersSpec.plain.varTypes Tryd.prog) (ds ++ gs)).all (· ≤ reachBytes) = true := hsz0
  have hval : ∀ (j : Nat) t v, Tryd.f6.params[j]? = some t → args[j]? = some v → Value.okWide Tryd.prog W .any base t v := hval0
  have hW' := hW
  obtain ⟨p, q, hA0, hV, rfl, hfz, hnd⟩ := hW
  have hA : DataW.TrodAll enc Tryd.prog W 0 (fun _ => true) true Tryd.f6.params.toList args.toList ds p := hA0
  rw [Tryd.params6] at hA hval hsz
  obtain ⟨v0, vs0, d0, ds0, p0, q0, hargs, rfl, rfl, h0, r0⟩ := trodAll_cons hA
  obtain ⟨v1, vs1, d1, ds1, p1, q1, rfl, rfl, rfl, h1, r1⟩ := trodAll_cons r0
  obtain ⟨v2, vs2, d2, ds2, p2, q2, rfl, rfl, rfl, h2, r2⟩ := trodAll_cons r1
  obtain ⟨rfl, rfl, rfl⟩ := trodAll_nil r2
  obtain rfl : args = #[v0, v1, v2] := by cases args; simp_all
  obtain ⟨rfl, rfl⟩ := trodVars_none hV
  obtain ⟨a0, rfl, rfl, rfl, w0⟩ := open_int Tryd.underlying3 (hval 0 3 v0 rfl rfl) h0
  obtain ⟨a1, rfl, rfl, rfl, w1⟩ := open_int Tryd.underlying3 (hval 1 3 v1 rfl rfl) h1
  obtain ⟨v2_0, v2_1, y2_0, y2_1, n2_, rfl, rfl, rfl, h2_0, h2_1⟩ := open_arr2 Tryd.underlying51 (by kernel_rfl) (by kernel_rfl) (hval 2 51 v2 rfl rfl) h2
  obtain ⟨a2_0, e2_0, rfl, w2_0⟩ := DataW.trod_int Tryd.underlying3 h2_0
  obtain rfl := (List.cons.inj e2_0).1
  obtain ⟨a2_1, e2_1, rfl, w2_1⟩ := DataW.trod_int Tryd.underlying3 h2_1
  obtain rfl := (List.cons.inj e2_1).1
  have hL0 : laidMet Tryd.prog Rows.halfNumbersRow.laid W := hL
  obtain ⟨E, hS0⟩ := sentinels (laidMet.tail (laidMet.tail (laidMet.tail hL0)))
  have hS : @Sent E F.tesseralaw05_HalfNumbers.L W := Sent.sub (by decide) hS0
  obtain ⟨k, h⟩ := Pure.HalfNumbers a0 a1 a2_0 a2_1 w0 w1 w2_0 w2_1
  clear hA0 hval0 hsz0 hsz
  refine (F.tesseralaw05_HalfNumbers.calls k a0 a1 a2_0 a2_1 true W h rfl hS).mono ?_
  rintro e W' ⟨he, bel0⟩
  have bel : Below W.heap.size W W' := bel0
  subst he
  exact ⟨_, rfl, _, _, _, [], _, [], hW', trodAll_mk1 (shut_bool Tryd.underlying4 _), (trodAll_cons_mk (shut_int Tryd.underlying3 w0) (trodAll_cons_mk (shut_int Tryd.underlying3 w1) (trodAll_cons_mk (shut_arr2 Tryd.underlying51 (by kernel_rfl) (by kernel_rfl) (shut_int Tryd.underlying3 w2_0) (shut_int Tryd.underlying3 w2_1)) trodAll_mk0))), rfl, bel.frame _, fun h => by cases h⟩
theorem over : Rows.halfNumbersRow.holds Tryd.pinned (OpenSpec.ofChange Rows.halfNumbersSpec) :=
  OpenClaim.holds_of_wide 6 Tryd.f6 rfl rfl rfl rfl rfl rfl rfl ⟨rfl, rfl, rfl, rfl, rfl⟩ rfl rfl rfl rfl rfl (by kernel_rfl) Tryd.func6 (by kernel_rfl)
    (of_decide_eq_true (by kernel_rfl)) (by unfold Func.isWrapper; first | (rw [if_pos (by decide +kernel)]; kernel_rfl) | (rw [if_neg (by decide +kernel)]; exact ⟨rfl, rfl⟩))
    (fun os started H enc _ => lifted os started H enc)
theorem proved : Rows.HalfNumbersCardSaid :=
  Claim7.holds_tied_plain_at .later [] [.data, .data, .data, .sentinel, .sentinel, .sentinel] true (true, "3a4348a49d3a281f229dcc245feca0553e9b7956a2557c4390290668517a352c") true
    over (fun _ h => by cases h) (by kernel_rfl) (fun _ h => by cases h) halfNumbers_row_tie rfl ⟨rfl, rfl⟩ (by kernel_rfl) rfl
    (fun f fn hf hfn => by
      obtain rfl : f = 6 := Option.some.inj ((show Tryd.prog.funcNamed "tessera/tesseralaw05.HalfNumbers" = some 6 by kernel_rfl).symm.trans hf) |>.symm
      obtain rfl : fn = Tryd.f6 := (Option.some.inj (Tryd.func6.symm.trans hfn)).symm
      exact ⟨by kernel_rfl, fun j t ht => by
        rw [Tryd.params6] at ht
        have hm : t ∈ ([3, 3, 51] : List Nat) := by simpa using Array.mem_of_getElem? ht
        have hall : (([3, 3, 51] : List Nat).all fun u => !Tryd.prog.wantsStandIn u) = true := by kernel_rfl
        exact (show Tryd.prog.wantsStandIn t = false by simpa using List.all_eq_true.1 hall t hm)⟩)
    (by kernel_rfl)
#print axioms proved
end Go.Proofs.YtnnondbimdmcaaaDoor.halfNumbers
namespace Go.Proofs.YtnnondbimdmcaaaDoor
/-- The tied card, under a short name, for the claim. -/
theorem halfNumbers_holds : Rows.HalfNumbersCardSaid := halfNumbers.proved
end Go.Proofs.YtnnondbimdmcaaaDoor
